/- The plain laws. -/
import Derived.Test.YthfhiepgdeghpaaKFnExactUndoOnT4
import Derived.Laws.BitsLemmas
import Derived.Test.YthfhiepgdeghpaaKFnExactUndoOnD
set_option linter.unusedVariables false
set_option linter.unusedSimpArgs false
set_option maxHeartbeats 8000000
set_option maxRecDepth 100000
/- Plain Lean: loops and small steps. -/
namespace Go.TV.F
open Go.TV

theorem wk64 {x : Int} (h1 : -9223372036854775808 ≤ x) (h2 : x < 9223372036854775808) : wk .i64 x = x := by
  simp only [wk, IntKind.wrap, IntKind.bits, IntKind.signed, Bool.true_and, decide_eq_true_eq, Nat.reduceSub, Int.reducePow]
  split
  · rename_i h; simp at h; omega
  · rename_i h; simp at h; omega
theorem wku64 {x : Int} (h1 : 0 ≤ x) (h2 : x < 18446744073709551616) : wk .u64 x = x := by
  simp only [wk, IntKind.wrap, IntKind.bits, IntKind.signed, Bool.true_and, Bool.false_and, decide_eq_true_eq, Bool.false_eq_true, if_false, Nat.reduceSub, Int.reducePow]
  first | omega | (split <;> omega)
theorem wku32 {x : Int} (h1 : 0 ≤ x) (h2 : x < 4294967296) : wk .u32 x = x := by
  simp only [wk, IntKind.wrap, IntKind.bits, IntKind.signed, Bool.true_and, Bool.false_and, decide_eq_true_eq, Bool.false_eq_true, if_false, Nat.reduceSub, Int.reducePow]
  first | omega | (split <;> omega)
theorem wku8 {x : Int} (h1 : 0 ≤ x) (h2 : x < 256) : wk .u8 x = x := by
  simp only [wk, IntKind.wrap, IntKind.bits, IntKind.signed, Bool.true_and, Bool.false_and, decide_eq_true_eq, Bool.false_eq_true, if_false, Nat.reduceSub, Int.reducePow]
  first | omega | (split <;> omega)
theorem wku32_mod (x : Int) : wk .u32 x = x % 4294967296 := by
  simp only [wk, IntKind.wrap, IntKind.bits, IntKind.signed, Bool.false_and, Bool.false_eq_true, if_false, Int.reducePow]
theorem wku8_mod (x : Int) : wk .u8 x = x % 256 := by
  simp only [wk, IntKind.wrap, IntKind.bits, IntKind.signed, Bool.false_and, Bool.false_eq_true, if_false, Int.reducePow]
theorem wku64_mod (x : Int) : wk .u64 x = x % 18446744073709551616 := by
  simp only [wk, IntKind.wrap, IntKind.bits, IntKind.signed, Bool.false_and, Bool.false_eq_true, if_false, Int.reducePow]
theorem geti_nat {α : Type} (l : List α) (k : Nat) : geti l (k : Int) = l[k]? := by
  unfold geti
  rw [if_neg (by omega), Int.toNat_natCast]
theorem geti_in {α : Type} {l : List α} {i : Int} (h1 : 0 ≤ i) (h2 : i < l.length) : geti l i = some (l[i.toNat]'(by omega)) := by
  unfold geti
  rw [if_neg (by omega), List.getElem?_eq_getElem]
theorem mkl_in {α : Type} {n : Int} {z : α} (h1 : 0 ≤ n) (h2 : n ≤ 1099511627776) : mkl n n z = some (List.replicate n.toNat z) := by
  unfold mkl
  rw [if_pos ⟨h1, Int.le_refl _, h2⟩]
theorem appn_in {α : Type} {l m : List α} (h : l.length + m.length ≤ 549755813888) : appn l m = some (l ++ m) := by
  unfold appn
  rw [if_pos h]
theorem sapp_in {s t : ByteArray} (h : s.size + t.size ≤ 4611686018427387904) : sapp s t = some (s ++ t) := by
  unfold sapp
  rw [if_pos h]
theorem chk_in {p : Prop} [Decidable p] (h : p) : chk p = some () := by
  unfold chk
  rw [if_pos h]
/-- A loop that goes through known states. -/
theorem loopM_at {σ ρ : Type} {body : σ → Option (σ ⊕ ρ)} {r : ρ} (f : Nat → σ) (n : Nat) (hs : ∀ k, k < n → body (f k) = some (.inl (f (k + 1)))) (he : body (f n) = some (.inr r)) : loopM body (f 0) = some r := by
  have key : ∀ m k, k + m = n → loopM body (f k) = some r := by
    intro m
    induction m with
    | zero => intro k hk; rw [Nat.add_zero] at hk; subst hk; rw [loopM_eq, he]; rfl
    | succ m ih => intro k hk; rw [loopM_eq, hs k (by omega)]; exact ih (k + 1) (by omega)
  exact key n 0 (by omega)
/-- A loop that looks at all, and leaves at the first bad one. -/
theorem loopM_all {σ ρ : Type} {body : σ → Option (σ ⊕ ρ)} {good bad : ρ} (f : Nat → σ) (n : Nat) (p : Nat → Bool) (hs : ∀ k, k < n → (∀ j, j < k → p j = true) → p k = true → body (f k) = some (.inl (f (k + 1))))
    (hb : ∀ k, k < n → (∀ j, j < k → p j = true) → p k = false → body (f k) = some (.inr bad)) (he : (∀ j, j < n → p j = true) → body (f n) = some (.inr good)) : loopM body (f 0) = some (if (List.range n).all p = true then good else bad) := by
  have key : ∀ m k, k + m = n → (∀ j, j < k → p j = true) → loopM body (f k) = some (if (List.range n).all p = true then good else bad) := by
    intro m
    induction m with
    | zero =>
      intro k hk hp
      rw [Nat.add_zero] at hk
      subst hk
      rw [loopM_eq, he hp, if_pos (by simpa using hp)]
      rfl
    | succ m ih =>
      intro k hk hp
      rw [loopM_eq]
      cases q : p k with
      | true =>
        rw [hs k (by omega) hp q]
        refine ih (k + 1) (by omega) (fun j hj => ?_)
        rcases Nat.lt_succ_iff_lt_or_eq.1 hj with h | rfl
        · exact hp j h
        · exact q
      | false =>
        rw [hb k (by omega) hp q, if_neg]
        · rfl
        · intro hq
          have := List.all_eq_true.1 hq k (List.mem_range.2 (by omega))
          rw [q] at this
          cases this
  exact key n 0 (by omega) (fun j hj => by omega)
end Go.TV.F
/- Plain Lean: the loops of the laws' own helpers. -/
namespace Go.TV.F
open Go.TV

def sumOf {α : Type} (w : α → Nat) : List α → Nat
  | [] => 0
  | x :: l => w x + sumOf w l
theorem sumOf_mem {α : Type} {w : α → Nat} {l : List α} {x : α} (h : x ∈ l) : w x ≤ sumOf w l := by
  induction l with
  | nil => cases h
  | cons y l ih =>
    rcases List.mem_cons.1 h with rfl | h
    · simp [sumOf]
    · have := ih h
      simp [sumOf]
      omega
/-- A copy. -/
theorem to_loop {α β : Type} {body : Int × List β → Option ((Int × List β) ⊕ List β)} (a : List α) (f : α → β) (z : β) (hs : ∀ (i : Nat) (x : α) (out : List β), a[i]? = some x → out.length = a.length → body ((i : Int), out) = some (.inl (((i + 1 : Nat) : Int), out.set i (f x))))
    (he : ∀ out : List β, out.length = a.length → body ((a.length : Int), out) = some (.inr out)) : loopM body ((0 : Int), List.replicate a.length z) = some (a.map f) := by
  have key : ∀ (l pre : List α), a = pre ++ l → loopM body ((pre.length : Int), pre.map f ++ List.replicate l.length z) = some (a.map f) := by
    intro l
    induction l with
    | nil =>
      intro pre h
      rw [List.append_nil] at h
      subst h
      rw [loopM_eq, he _ (by simp)]
      simp
    | cons x l ih =>
      intro pre h
      rw [loopM_eq, hs pre.length x _ (by rw [h]; simp) (by rw [h]; simp)]
      have := ih (pre ++ [x]) (by rw [h]; simp)
      rw [List.length_append, List.map_append] at this
      have e : (List.map f pre ++ List.replicate (x :: l).length z).set pre.length (f x) = List.map f pre ++ List.map f [x] ++ List.replicate l.length z := by
        rw [List.set_append_right _ _ (by simp)]
        simp [List.replicate_succ]
      rw [e]
      exact this
  exact key a [] rfl
/-- Alike with itself. -/
theorem eq_loop {ρ : Type} {body : Int → Option (Int ⊕ ρ)} {r : ρ} (n : Nat) (hs : ∀ i : Nat, i < n → body (i : Int) = some (.inl ((i + 1 : Nat) : Int))) (he : body (n : Int) = some (.inr r)) : loopM body 0 = some r :=
  loopM_at (fun k => (k : Int)) n hs he
/-- What marks make of a list. -/
def mkL {α : Type} (c : α → Nat) (mk : α → Int → α) : List α → Int → List α
  | [], _ => []
  | x :: l, k => mk x k :: mkL c mk l (k + c x)
theorem mkL_len {α : Type} (c : α → Nat) (mk : α → Int → α) : ∀ (l : List α) (k : Int), (mkL c mk l k).length = l.length
  | [], _ => rfl
  | x :: l, k => by simp [mkL, mkL_len c mk l]
theorem mark_loop {α : Type} {body : Int × Int × List α → Option ((Int × Int × List α) ⊕ (Int × List α))} (c : α → Nat) (mk : α → Int → α) (a : List α) (k0 B : Int) (h1 : 1 ≤ k0) (hB : k0 + sumOf c a ≤ B)
    (hs : ∀ (k : Int) (i : Nat) (x : α) (l : List α), l[i]? = some x → x ∈ a → l.length = a.length → 1 ≤ k → k + c x ≤ B → body (k, (i : Int), l) = some (.inl (k + c x, ((i + 1 : Nat) : Int), l.set i (mk x k))))
    (he : ∀ (k : Int) (l : List α), l.length = a.length → body (k, (a.length : Int), l) = some (.inr (k, l))) : loopM body (k0, (0 : Int), a) = some (k0 + sumOf c a, mkL c mk a k0) := by
  have key : ∀ (l pre : List α) (k : Int), (∀ x ∈ l, x ∈ a) → pre.length + l.length = a.length → 1 ≤ k → k + sumOf c l ≤ B → loopM body (k, (pre.length : Int), pre ++ l) = some (k + sumOf c l, pre ++ mkL c mk l k) := by
    intro l
    induction l with
    | nil =>
      intro pre k _ hl h1 hB
      rw [loopM_eq, show (pre.length : Int) = (a.length : Int) by simp at hl; omega, he _ _ (by simpa using hl)]
      simp [sumOf, mkL]
    | cons x l ih =>
      intro pre k hm hl h1 hB
      simp only [sumOf] at hB
      rw [loopM_eq, hs k pre.length x _ (by simp) (hm x (by simp)) (by simpa using hl) h1 (by omega)]
      have := ih (pre ++ [mk x k]) (k + c x) (fun y hy => hm y (by simp [hy])) (by simp at hl ⊢; omega) (by omega) (by omega)
      have e : (pre ++ x :: l).set pre.length (mk x k) = pre ++ [mk x k] ++ l := by
        rw [List.set_append_right _ _ (by simp)]
        simp
      rw [e]
      rw [List.length_append] at this
      refine this.trans ?_
      simp only [sumOf, mkL, List.append_assoc, List.cons_append, List.nil_append, Option.some.injEq, Prod.mk.injEq, and_true]
      omega
  exact key a [] k0 (fun _ h => h) (by simp) h1 hB
theorem held_loop {α : Type} {ρ : Type} {body : Int × Int → Option ((Int × Int) ⊕ ρ)} {r : Int → ρ} (c : α → Nat) (mk : α → Int → α) (a : List α) (k0 B : Int) (h1 : 1 ≤ k0) (hB : k0 + sumOf c a ≤ B)
    (hs : ∀ (k : Int) (i : Nat) (x : α), (mkL c mk a k0)[i]? = some (mk x k) → i < a.length → x ∈ a → 1 ≤ k → k + c x ≤ B → body (k, (i : Int)) = some (.inl (k + c x, ((i + 1 : Nat) : Int))))
    (he : ∀ (k : Int), body (k, (a.length : Int)) = some (.inr (r k))) : loopM body (k0, (0 : Int)) = some (r (k0 + sumOf c a)) := by
  have key : ∀ (l : List α) (pre : List α) (k : Int), (∀ x ∈ l, x ∈ a) → mkL c mk a k0 = pre ++ mkL c mk l k → pre.length + l.length = a.length → 1 ≤ k → k + sumOf c l ≤ B → loopM body (k, (pre.length : Int)) = some (r (k + sumOf c l)) := by
    intro l
    induction l with
    | nil =>
      intro pre k _ _ hl h1 hB
      rw [loopM_eq, show (pre.length : Int) = (a.length : Int) by simp at hl; omega, he]
      simp [sumOf]
    | cons x l ih =>
      intro pre k hm hp hl h1 hB
      simp only [sumOf] at hB
      rw [loopM_eq, hs k pre.length x (by rw [hp]; simp [mkL]) (by simp at hl; omega) (hm x (by simp)) h1 (by omega)]
      have := ih (pre ++ [mk x k]) (k + c x) (fun y hy => hm y (by simp [hy])) (by rw [hp]; simp [mkL]) (by simp at hl ⊢; omega) (by omega) (by omega)
      rw [List.length_append] at this
      refine this.trans ?_
      simp only [sumOf, Option.some.injEq]
      congr 1
      omega
  exact key a [] k0 (fun _ h => h) rfl (by simp) h1 hB
/-- How much there is. -/
theorem sz_loop {α : Type} {body : Int × Int → Option ((Int × Int) ⊕ (Int ⊕ Int))} (w : α → Nat) (a : List α) (left : Int) (h0 : 0 ≤ left)
    (hs : ∀ (s : Int) (i : Nat) (x : α), a[i]? = some x → 0 ≤ s → s ≤ left → body (s, (i : Int)) = if (w x : Int) ≤ s then some (.inl (s - w x, ((i + 1 : Nat) : Int))) else some (.inr (.inl (-1))))
    (he : ∀ (s : Int), body (s, (a.length : Int)) = some (.inr (.inr s))) : loopM body (left, (0 : Int)) = some (if (sumOf w a : Int) ≤ left then .inr (left - sumOf w a) else .inl (-1)) := by
  have key : ∀ (l : List α) (pre : List α) (s : Int), a = pre ++ l → 0 ≤ s → s ≤ left → loopM body (s, (pre.length : Int)) = some (if (sumOf w l : Int) ≤ s then .inr (s - sumOf w l) else .inl (-1)) := by
    intro l
    induction l with
    | nil =>
      intro pre s h h1 h2
      rw [List.append_nil] at h
      rw [loopM_eq, ← h, he]
      simp [sumOf, h1]
    | cons x l ih =>
      intro pre s h h1 h2
      rw [loopM_eq, hs s pre.length x (by rw [h]; simp) h1 h2]
      have e : ((sumOf w (x :: l) : Nat) : Int) = w x + sumOf w l := by simp [sumOf]
      by_cases q : (w x : Int) ≤ s
      · rw [if_pos q]
        have := ih (pre ++ [x]) (s - w x) (by rw [h]; simp) (by omega) (by omega)
        rw [List.length_append] at this
        refine this.trans ?_
        by_cases q2 : (sumOf w l : Int) ≤ s - w x
        · rw [if_pos q2, if_pos (by omega)]
          congr 2
          omega
        · rw [if_neg q2, if_neg (by omega)]
      · rw [if_neg q]
        rw [if_neg (by omega)]
        rfl
  exact key a [] left rfl h0 (Int.le_refl _)
end Go.TV.F
/- Plain Lean: graphs of versions. -/
namespace Go.TV.F
open Go.TV

/-! ### Right graphs -/
def riseAt (l : List Int) (n : Int) (i : Nat) : Bool := decide (l.getD i 0 ≥ 0) && decide (l.getD i 0 ≤ n - 1) && (i == 0 || decide (l.getD (i - 1) 0 < l.getD i 0))
def rise (l : List Int) (n : Int) : Bool := (List.range l.length).all (riseAt l n)
def gAt (g : List (List Int)) (v : Nat) : Bool := decide ((g.getD v []).length ≤ 4) && rise (g.getD v []) v
def gOk (g : List (List Int)) : Bool := decide (g.length ≤ 40) && (List.range g.length).all (gAt g)
theorem gOk_len {g : List (List Int)} (h : gOk g = true) : g.length ≤ 40 := by
  simp only [gOk, Bool.and_eq_true, decide_eq_true_eq] at h
  exact h.1
theorem gOk_at {g : List (List Int)} (hg : gOk g = true) {v : Nat} (hv : v < g.length) : g[v].length ≤ 4 ∧ rise g[v] v = true := by
  simp only [gOk, Bool.and_eq_true] at hg
  have h1 := List.all_eq_true.1 hg.2 v (List.mem_range.2 hv)
  have : g.getD v [] = g[v] := by simp [hv]
  simp only [gAt, this, Bool.and_eq_true, decide_eq_true_eq] at h1
  exact h1
theorem rise_mem {l : List Int} {n : Int} (h : rise l n = true) {x : Int} (hx : x ∈ l) : 0 ≤ x ∧ x ≤ n - 1 := by
  obtain ⟨i, hi, rfl⟩ := List.getElem_of_mem hx
  have := List.all_eq_true.1 h i (List.mem_range.2 hi)
  have e : l.getD i 0 = l[i] := by simp [hi]
  simp only [riseAt, e, Bool.and_eq_true, decide_eq_true_eq] at this
  exact this.1
theorem gOk_mem {g : List (List Int)} (hg : gOk g = true) {v : Nat} (hv : v < g.length) {x : Int} (hx : x ∈ g[v]) : 0 ≤ x ∧ x < v := by
  have := rise_mem (gOk_at hg hv).2 hx
  omega

/-! ### Sets as bits -/
def orL (c : List Nat) (l : List Int) : Nat := l.foldl (fun (s : Nat) (x : Int) => s ||| c.getD x.toNat 0) 0
theorem orL_snoc (c : List Nat) (l : List Int) (x : Int) : orL c (l ++ [x]) = orL c l ||| c.getD x.toNat 0 := by
  unfold orL
  rw [List.foldl_append]
  rfl
theorem orL_take {c : List Nat} {l : List Int} {i : Nat} (hi : i < l.length) : orL c (l.take (i + 1)) = orL c (l.take i) ||| c.getD l[i].toNat 0 := by
  rw [List.take_succ_eq_append_getElem hi, orL_snoc]
theorem getD_lt {c : List Nat} (hc : ∀ x ∈ c, x < 2 ^ 64) (i : Nat) : c.getD i 0 < 2 ^ 64 := by
  rw [List.getD_eq_getElem?_getD]
  rcases q : c[i]? with _ | x
  · decide
  · exact hc x (List.mem_of_getElem? q)
theorem orL_lt {c : List Nat} (hc : ∀ x ∈ c, x < 2 ^ 64) (l : List Int) : orL c l < 2 ^ 64 := by
  unfold orL
  suffices h : ∀ (l : List Int) (s : Nat), s < 2 ^ 64 → l.foldl (fun (s : Nat) (x : Int) => s ||| c.getD x.toNat 0) s < 2 ^ 64 from h l 0 (by decide)
  intro l
  induction l with
  | nil => intro s hs; exact hs
  | cons x l ih => intro s hs; exact ih _ (Nat.or_lt_two_pow hs (getD_lt hc _))
theorem orL_test (c : List Nat) (l : List Int) (u : Nat) : (orL c l).testBit u = l.any fun x => (c.getD x.toNat 0).testBit u := by
  unfold orL
  suffices h : ∀ (l : List Int) (s : Nat), (l.foldl (fun (s : Nat) (x : Int) => s ||| c.getD x.toNat 0) s).testBit u = (s.testBit u || l.any fun x => (c.getD x.toNat 0).testBit u) by
    rw [h]; simp
  intro l
  induction l with
  | nil => intro s; simp
  | cons x l ih => intro s; rw [List.foldl_cons, ih, Nat.testBit_or, List.any_cons, Bool.or_assoc]
theorem wrapu {n : Int} (h0 : 0 ≤ n) (h1 : n < 2 ^ 64) : IntKind.wrap .u64 n = n := wku64 h0 (by omega)
theorem or_u64 {a b : Nat} (ha : a < 2 ^ 64) (hb : b < 2 ^ 64) : bits .or .u64 a b = ((a ||| b : Nat) : Int) := (bits_nat .u64 64 (by decide) (fun n h0 h1 => wrapu h0 h1) a b ha hb).2
theorem and_u64 {a b : Nat} (ha : a < 2 ^ 64) (hb : b < 2 ^ 64) : bits .and .u64 a b = ((a &&& b : Nat) : Int) := (bits_nat .u64 64 (by decide) (fun n h0 h1 => wrapu h0 h1) a b ha hb).1
theorem shl_one {n : Nat} (hn : n < 64) : shlI .u64 1 (n : Int) = ((2 ^ n : Nat) : Int) := by
  have h : (2 ^ n : Nat) < 2 ^ 64 := Nat.pow_lt_pow_right (by decide) hn
  unfold shlI
  rw [Int.toNat_natCast, show min n IntKind.u64.bits = n by simp [IntKind.bits]; omega, Int.one_mul]
  have e : ((2 : Int) ^ n) = ((2 ^ n : Nat) : Int) := by simp
  rw [e]
  exact wku64 (Int.natCast_nonneg _) (Int.ofNat_lt.2 (show 2 ^ n < 18446744073709551616 from h))
theorem shr_test (s n : Nat) (hs : s < 2 ^ 64) (hn : n < 64) : ((bits .and .u64 (shrI .u64 (s : Int) (n : Int)) 1) == 1) = s.testBit n := by
  have e1 : shrI .u64 (s : Int) (n : Int) = ((s / 2 ^ n : Nat) : Int) := by
    unfold shrI
    rw [Int.toNat_natCast, show min n IntKind.u64.bits = n by simp [IntKind.bits]; omega]
    simp
  have e2 := and_u64 (a := s / 2 ^ n) (b := 1) (Nat.lt_of_le_of_lt (Nat.div_le_self _ _) hs) (by decide)
  rw [e1, show ((1 : Int)) = ((1 : Nat) : Int) from rfl, e2, Nat.testBit_eq_decide_div_mod_eq, Nat.and_one_is_mod]
  rcases Nat.mod_two_eq_zero_or_one (s / 2 ^ n) with q | q <;> rw [q] <;> rfl
def bitsL (s n : Nat) : List Nat := (List.range n).filter fun v => s.testBit v
theorem bitsL_succ (s n : Nat) : bitsL s (n + 1) = if s.testBit n = true then bitsL s n ++ [n] else bitsL s n := by
  simp only [bitsL, List.range_succ, List.filter_append]
  cases q : s.testBit n <;> simp [q]
theorem bitsL_len (s n : Nat) : (bitsL s n).length ≤ n := by
  have := List.length_filter_le (fun v => s.testBit v) (List.range n)
  simpa [bitsL] using this
def ints (l : List Nat) : List Int := l.map fun (n : Nat) => (n : Int)

/-! ### Closures -/
def closN (g : List (List Int)) : Nat → List Nat
  | 0 => List.replicate g.length 0
  | n + 1 => (closN g n).set n (orL (closN g n) (g.getD n []) ||| 2 ^ n)
theorem closN_len (g : List (List Int)) : ∀ n, (closN g n).length = g.length
  | 0 => by simp [closN]
  | n + 1 => by rw [closN, List.length_set, closN_len]
theorem closN_lt {g : List (List Int)} (hg : g.length ≤ 40) : ∀ n, n ≤ g.length → ∀ x ∈ closN g n, x < 2 ^ 64
  | 0, _, x, hx => by
    have := List.eq_of_mem_replicate hx
    subst this
    decide
  | n + 1, hn, x, hx => by
    rcases List.mem_or_eq_of_mem_set hx with q | q
    · exact closN_lt hg n (by omega) x q
    · rw [q]
      exact Nat.or_lt_two_pow (orL_lt (closN_lt hg n (by omega)) _) (Nat.pow_lt_pow_right (by decide) (by omega))
theorem closN_old (g : List (List Int)) : ∀ (n k i : Nat), i < n → (closN g (n + k)).getD i 0 = (closN g n).getD i 0
  | _, 0, _, _ => rfl
  | n, k + 1, i, hi => by
    rw [← Nat.add_assoc, closN, List.getD_eq_getElem?_getD, List.getElem?_set_ne (by omega), ← List.getD_eq_getElem?_getD]
    exact closN_old g n k i hi
/-- The closure of a version, as bits. -/
def clo (g : List (List Int)) (v : Nat) : Nat := (closN g g.length).getD v 0
theorem closN_clo {g : List (List Int)} {n i : Nat} (hn : n ≤ g.length) (hi : i < n) : (closN g n).getD i 0 = clo g i := by
  have := closN_old g n (g.length - n) i hi
  rw [show n + (g.length - n) = g.length by omega] at this
  exact this.symm
theorem clo_lt {g : List (List Int)} (hg : gOk g = true) (v : Nat) : clo g v < 2 ^ 64 := getD_lt (closN_lt (gOk_len hg) _ (Nat.le_refl _)) v
theorem clo_test {g : List (List Int)} (hg : gOk g = true) {v : Nat} (hv : v < g.length) (u : Nat) : (clo g v).testBit u = (decide (u = v) || g[v].any fun p => (clo g p.toNat).testBit u) := by
  have e : g.getD v [] = g[v] := by simp [hv]
  have h1 : clo g v = orL (closN g v) g[v] ||| 2 ^ v := by
    rw [← closN_clo (n := v + 1) (by omega) (by omega), closN, List.getD_eq_getElem?_getD, List.getElem?_set_self (by rw [closN_len]; omega), e]
    rfl
  have h2 : (orL (closN g v) g[v]).testBit u = g[v].any fun p => (clo g p.toNat).testBit u := by
    rw [orL_test, Bool.eq_iff_iff, List.any_eq_true, List.any_eq_true]
    constructor
    · rintro ⟨x, hx, h⟩
      have := gOk_mem hg hv hx
      exact ⟨x, hx, by rw [← closN_clo (n := v) (by omega) (by omega)]; exact h⟩
    · rintro ⟨x, hx, h⟩
      have := gOk_mem hg hv hx
      exact ⟨x, hx, by rw [closN_clo (by omega) (by omega)]; exact h⟩
  rw [h1, Nat.testBit_or, h2, Nat.testBit_two_pow, Bool.or_comm]
  congr 1
  simp only [decide_eq_decide]
  omega
theorem clo_self {g : List (List Int)} (hg : gOk g = true) {v : Nat} (hv : v < g.length) : (clo g v).testBit v = true := by
  rw [clo_test hg hv]
  simp
theorem clo_le {g : List (List Int)} (hg : gOk g = true) : ∀ {v : Nat}, v < g.length → ∀ {u : Nat}, (clo g v).testBit u = true → u ≤ v := by
  intro v
  induction v using Nat.strongRecOn with
  | _ v ih =>
    intro hv u h
    rw [clo_test hg hv] at h
    simp only [Bool.or_eq_true, decide_eq_true_eq, List.any_eq_true] at h
    rcases h with h | ⟨p, hp, h⟩
    · omega
    · have := gOk_mem hg hv hp
      have := ih p.toNat (by omega) (by omega) h
      omega

/-! ### The reference's way -/
def mark (b : List Bool) (l : List Int) : List Bool := l.foldl (fun (b : List Bool) (x : Int) => if 0 ≤ x ∧ x < b.length then b.set x.toNat true else b) b
def step (g : List (List Int)) (b : List Bool) (v : Nat) : List Bool := if b.getD v false = true then mark b (g.getD v []) else b
def down (g : List (List Int)) : Nat → List Bool → List Bool
  | 0, b => b
  | n + 1, b => down g n (step g b n)
def setL (g : List (List Int)) (l : List Int) : List Bool := down g g.length (mark (List.replicate g.length false) l)
theorem mark_snoc (b : List Bool) (l : List Int) (x : Int) : mark b (l ++ [x]) = if 0 ≤ x ∧ x < (mark b l).length then (mark b l).set x.toNat true else mark b l := by
  unfold mark
  rw [List.foldl_append]
  rfl
theorem mark_len (b : List Bool) (l : List Int) : (mark b l).length = b.length := by
  unfold mark
  induction l generalizing b with
  | nil => rfl
  | cons x l ih =>
    rw [List.foldl_cons, ih]
    split <;> simp
theorem mark_take {b : List Bool} {l : List Int} {i : Nat} (hi : i < l.length) : mark b (l.take (i + 1)) = if 0 ≤ l[i] ∧ l[i] < b.length then (mark b (l.take i)).set l[i].toNat true else mark b (l.take i) := by
  rw [List.take_succ_eq_append_getElem hi, mark_snoc, mark_len]
theorem mark_get (b : List Bool) (l : List Int) (u : Nat) : (mark b l).getD u false = (b.getD u false || (decide (u < b.length) && l.any fun x => x == (u : Int))) := by
  unfold mark
  induction l generalizing b with
  | nil => simp
  | cons x l ih =>
    rw [List.foldl_cons, ih, List.any_cons]
    split
    · rename_i hx
      simp only [List.length_set, List.getD_eq_getElem?_getD, List.getElem?_set]
      by_cases e : x.toNat = u
      · have e' : (x == (u : Int)) = true := by simp; omega
        rw [if_pos e, if_pos (by omega), e']
        simp
        right
        omega
      · have e' : (x == (u : Int)) = false := by simp; omega
        rw [if_neg e, e', Bool.false_or]
    · rename_i hx
      by_cases e : x = (u : Int)
      · have : ¬ u < b.length := by omega
        simp [this]
      · have e' : (x == (u : Int)) = false := by simp; exact e
        rw [e', Bool.false_or]
theorem down_len (g : List (List Int)) : ∀ (n : Nat) (b : List Bool), (down g n b).length = b.length
  | 0, _ => rfl
  | n + 1, b => by
    rw [down, down_len, step]
    split
    · exact mark_len _ _
    · rfl
theorem setL_len (g : List (List Int)) (l : List Int) : (setL g l).length = g.length := by rw [setL, down_len, mark_len]; simp
theorem down_get {g : List (List Int)} (hg : gOk g = true) : ∀ (m : Nat) (b : List Bool), m ≤ g.length → b.length = g.length → ∀ u, (down g m b).getD u false = true ↔ ∃ w, b.getD w false = true ∧ ((w < m ∧ (clo g w).testBit u = true) ∨ u = w)
  | 0, b, _, _, u => by
    rw [down]
    exact ⟨fun h => ⟨u, h, .inr rfl⟩, fun ⟨w, h1, h2⟩ => by
      rcases h2 with ⟨h2, _⟩ | h2
      · omega
      · rw [h2]; exact h1⟩
  | m + 1, b, hm, hb, u => by
    have hl : (step g b m).length = g.length := by
      rw [step]
      split
      · rw [mark_len]; exact hb
      · exact hb
    rw [down, down_get hg m _ (by omega) hl u]
    have e : g.getD m [] = g[m] := by simp [show m < g.length by omega]
    by_cases q : b.getD m false = true
    · rw [step, if_pos q, e]
      constructor
      · rintro ⟨w, h1, h2⟩
        rw [mark_get] at h1
        simp only [Bool.or_eq_true, Bool.and_eq_true, decide_eq_true_eq, List.any_eq_true] at h1
        rcases h1 with h1 | ⟨_, x, hx, h1⟩
        · refine ⟨w, h1, ?_⟩
          rcases h2 with ⟨h2, h3⟩ | h2
          · exact .inl ⟨by omega, h3⟩
          · exact .inr h2
        · have hx' := gOk_mem hg (v := m) (by omega) hx
          have h1 : x = (w : Int) := by simpa using h1
          subst h1
          refine ⟨m, q, .inl ⟨by omega, ?_⟩⟩
          rw [clo_test hg (by omega)]
          simp only [Bool.or_eq_true, List.any_eq_true]
          refine .inr ⟨(w : Int), hx, ?_⟩
          rw [Int.toNat_natCast]
          rcases h2 with ⟨_, h2⟩ | h2
          · exact h2
          · rw [h2]
            exact clo_self hg (by omega)
      · rintro ⟨w, h1, h2⟩
        by_cases hw : w = m
        · subst hw
          rcases h2 with ⟨_, h2⟩ | h2
          · rw [clo_test hg (by omega)] at h2
            simp only [Bool.or_eq_true, decide_eq_true_eq, List.any_eq_true] at h2
            rcases h2 with h2 | ⟨p, hp, h2⟩
            · exact ⟨w, by rw [mark_get, h1]; rfl, .inr h2⟩
            · have hp' := gOk_mem hg (v := w) (by omega) hp
              refine ⟨p.toNat, ?_, .inl ⟨by omega, h2⟩⟩
              rw [mark_get]
              simp only [Bool.or_eq_true, Bool.and_eq_true, decide_eq_true_eq, List.any_eq_true]
              exact .inr ⟨by omega, p, hp, by simp; omega⟩
          · exact ⟨w, by rw [mark_get, h1]; rfl, .inr h2⟩
        · refine ⟨w, by rw [mark_get, h1]; rfl, ?_⟩
          rcases h2 with ⟨h2, h3⟩ | h2
          · exact .inl ⟨by omega, h3⟩
          · exact .inr h2
    · rw [step, if_neg q]
      constructor
      · rintro ⟨w, h1, h2⟩
        refine ⟨w, h1, ?_⟩
        rcases h2 with ⟨h2, h3⟩ | h2
        · exact .inl ⟨by omega, h3⟩
        · exact .inr h2
      · rintro ⟨w, h1, h2⟩
        have hw : w ≠ m := fun e => q (e ▸ h1)
        refine ⟨w, h1, ?_⟩
        rcases h2 with ⟨h2, h3⟩ | h2
        · exact .inl ⟨by omega, h3⟩
        · exact .inr h2
theorem setL_get {g : List (List Int)} (hg : gOk g = true) (l : List Int) (u : Nat) : (setL g l).getD u false = true ↔ ∃ x ∈ l, 0 ≤ x ∧ x < g.length ∧ (clo g x.toNat).testBit u = true := by
  rw [setL, down_get hg _ _ (Nat.le_refl _) (by rw [mark_len]; simp)]
  constructor
  · rintro ⟨w, h1, h2⟩
    rw [mark_get] at h1
    simp only [List.length_replicate, Bool.or_eq_true, Bool.and_eq_true, decide_eq_true_eq, List.any_eq_true] at h1
    rcases h1 with h1 | ⟨h0, x, hx, h1⟩
    · rw [List.getD_eq_getElem?_getD, List.getElem?_replicate] at h1
      split at h1 <;> cases h1
    · have h1 : x = (w : Int) := by simpa using h1
      subst h1
      refine ⟨(w : Int), hx, by omega, by omega, ?_⟩
      rw [Int.toNat_natCast]
      rcases h2 with ⟨_, h2⟩ | h2
      · exact h2
      · rw [h2]; exact clo_self hg h0
  · rintro ⟨x, hx, h0, h1, h2⟩
    refine ⟨x.toNat, ?_, .inl ⟨by omega, h2⟩⟩
    rw [mark_get]
    simp only [List.length_replicate, Bool.or_eq_true, Bool.and_eq_true, decide_eq_true_eq, List.any_eq_true]
    exact .inr ⟨by omega, x, hx, by simp; omega⟩
def trues (bs : List Bool) (n : Nat) : List Nat := (List.range n).filter fun v => bs.getD v false
theorem trues_len (bs : List Bool) (v : Nat) : (trues bs v).length ≤ v := by
  have := List.length_filter_le (fun v => bs.getD v false) (List.range v)
  simpa [trues] using this
theorem trues_succ (bs : List Bool) (v : Nat) : trues bs (v + 1) = if bs.getD v false = true then trues bs v ++ [v] else trues bs v := by
  simp only [trues, List.range_succ, List.filter_append]
  cases q : bs.getD v false <;> simp [q, -List.getD_eq_getElem?_getD]
/-- Both tell the same list. -/
theorem setL_bits {g : List (List Int)} (hg : gOk g = true) (l : List Int) (hl : ∀ x ∈ l, 0 ≤ x ∧ x < (g.length : Int)) : trues (setL g l) g.length = bitsL (orL (closN g g.length) l) 64 := by
  have hlen := gOk_len hg
  unfold trues bitsL
  have e : (List.range 64) = List.range g.length ++ (List.range (64 - g.length)).map (g.length + ·) := by
    rw [← List.range_add]
    congr 1
    omega
  rw [e, List.filter_append]
  have h2 : ((List.range (64 - g.length)).map (g.length + ·)).filter (fun v => (orL (closN g g.length) l).testBit v) = [] := by
    rw [List.filter_eq_nil_iff]
    intro v hv
    obtain ⟨k, _, rfl⟩ := List.mem_map.1 hv
    intro q
    rw [orL_test, List.any_eq_true] at q
    obtain ⟨x, hx, q⟩ := q
    have := hl x hx
    have := clo_le hg (v := x.toNat) (by omega) q
    omega
  rw [h2, List.append_nil]
  apply List.filter_congr
  intro v _
  rw [Bool.eq_iff_iff, setL_get hg, orL_test, List.any_eq_true]
  constructor
  · rintro ⟨x, hx, _, _, h⟩
    exact ⟨x, hx, h⟩
  · rintro ⟨x, hx, h⟩
    have := hl x hx
    exact ⟨x, hx, this.1, this.2, h⟩
end Go.TV.F
/- Plain Lean: loops by what stays true, and small lemmas. -/
namespace Go.TV.F
open Go.TV
def LB : Nat := 1000000000000000
theorem loopK1 {σ ρ : Type} {f : σ → Option (σ ⊕ ρ)} (I : σ → Prop) (m : σ → Nat) (Q : ρ → Prop) {s : σ} (h0 : I s)
    (h : ∀ s, I s → (∃ s', f s = some (.inl s') ∧ I s' ∧ m s' < m s) ∨ ∃ r, f s = some (.inr r) ∧ Q r) : ∃ r, loopM f s = some r ∧ Q r := by
  have key : ∀ n s, I s → m s = n → ∃ r, loopM f s = some r ∧ Q r := by
    intro n
    induction n using Nat.strongRecOn with
    | _ n ih =>
      intro s hs hm
      rw [loopM_eq f]
      rcases h s hs with ⟨s', h1, h2, h3⟩ | ⟨r, h1, h2⟩
      · rw [h1]
        exact ih (m s') (by omega) s' h2 rfl
      · rw [h1]
        exact ⟨r, rfl, h2⟩
  exact key _ s h0 rfl
theorem tmodK (a b : Nat) : ((a : Int)).tmod (b : Int) = ((a % b : Nat) : Int) := by
  rw [Int.tmod_eq_emod_of_nonneg (by omega)]
  rfl
theorem tdivK (a b : Nat) : ((a : Int)).tdiv (b : Int) = ((a / b : Nat) : Int) := by
  rw [Int.tdiv_eq_ediv_of_nonneg (by omega)]
  rfl
theorem mkSK (l : List Int) : (mkS l).size = l.length := by
  show (List.toArray (l.map fun x => UInt8.ofNat x.toNat)).size = _
  simp
theorem geti_set {α : Type} {l : List α} {i : Nat} (x : α) (h : i < l.length) : geti (l.set i x) (i : Int) = some x := by
  rw [geti_nat]
  simp [h]
theorem gset {α : Type} {l : List α} {i : Nat} {x : α} (h : i < l.length) : (l.set i x)[i]? = some x := by simp [h]
theorem inl3 {α β γ ρ : Type} {a a' : α} {b b' : β} {c c' : γ} (h1 : a = a') (h2 : b = b') (h3 : c = c') : (some (.inl (a, b, c)) : Option ((α × β × γ) ⊕ ρ)) = some (.inl (a', b', c')) := by rw [h1, h2, h3]
theorem inl2 {α β ρ : Type} {a a' : α} {b b' : β} (h1 : a = a') (h2 : b = b') : (some (.inl (a, b)) : Option ((α × β) ⊕ ρ)) = some (.inl (a', b')) := by rw [h1, h2]
theorem ltF {a : Int} (h : 0 ≤ a) : decide (a < 0) = false := by simp; omega
theorem sumK1 {α : Type} (a : List α) : sumOf (fun _ => 1) a = a.length := by
  induction a with
  | nil => rfl
  | cons x l ih => simp [sumOf, ih]; omega
theorem sumOf_map {α β : Type} {w : β → Nat} {f : α → β} {v : α → Nat} : ∀ (a : List α), (∀ x ∈ a, w (f x) ≤ v x) → sumOf w (a.map f) ≤ sumOf v a
  | [], _ => Nat.le_refl _
  | x :: l, h => by
    have h1 := h x (by simp)
    have h2 := sumOf_map l (fun y hy => h y (by simp [hy]))
    simp only [sumOf, List.map_cons]
    omega
theorem sumOf_map8 {α β : Type} {w : β → Nat} {f : α → β} {v : α → Nat} : ∀ (a : List α), (∀ x ∈ a, w (f x) ≤ 8 * v x + 8) → sumOf w (a.map f) ≤ 8 * (a.length + sumOf v a)
  | [], _ => by simp [sumOf]
  | x :: l, h => by
    have h1 := h x (by simp)
    have h2 := sumOf_map8 l (fun y hy => h y (by simp [hy]))
    simp only [sumOf, List.map_cons, List.length_cons]
    omega
theorem sumOf_leK {α : Type} {w : α → Nat} {B : Nat} : ∀ {a : List α}, (∀ x ∈ a, w x ≤ B) → sumOf w a ≤ a.length * B
  | [], _ => by simp [sumOf]
  | x :: l, h => by
    have h1 := h x (by simp)
    have h2 := sumOf_leK (a := l) (fun y hy => h y (by simp [hy]))
    simp only [sumOf, List.length_cons, Nat.add_mul]
    omega
end Go.TV.F
/- Plain Lean: the functions over graphs, and what they come to. -/
namespace Go.TV.F
open Go.TV

theorem inRange_eq (n a b : Int) : impl_inRange n a b = some (decide (a ≤ n) && decide (n ≤ b)) := by
  unfold impl_inRange
  by_cases h : a ≤ n <;> simp [h]
theorem l01In_eq (n a b : Int) : spec_l01In n a b = some (decide (a ≤ n) && decide (n ≤ b)) := by
  unfold spec_l01In
  by_cases h : a ≤ n <;> simp [h]
theorem isPlace_eq {n m : Int} (h0 : 0 ≤ m) (h1 : m ≤ 1000000000) : impl_isPlace n m = some (decide (0 ≤ n) && decide (n < m)) := by
  unfold impl_isPlace
  rw [wk64 (by omega) (by omega), inRange_eq]
  have : decide (n ≤ m - 1) = decide (n < m) := by simp only [decide_eq_decide]; omega
  rw [this]
  rfl
theorem riseAt_nat {l : List Int} {n : Int} {i : Nat} (hi : i < l.length) : riseAt l n i = (decide (0 ≤ l[i]) && decide (l[i] ≤ n - 1) && (i == 0 || decide (l.getD (i - 1) 0 < l[i]))) := by
  have e : l.getD i 0 = l[i] := by simp [hi]
  simp only [riseAt, e]
theorem ascends_eq {l : List Int} {n : Int} (hl : l.length ≤ 1000000000) (hn : 0 ≤ n) (hn2 : n ≤ 1000000000) : impl_ascends l n = some (rise l n) := by
  unfold impl_ascends
  have hb : ∀ k : Nat, k < l.length → impl_ascends_l1 l n k = some (if riseAt l n k = true then .inl ((k + 1 : Nat) : Int) else .inr (.inl false)) := by
    intro k hk
    unfold impl_ascends_l1
    rw [ifT (by simpa using hk), geti_nat, List.getElem?_eq_getElem hk, Option.bind_some, wk64 (x := n - 1) (by omega) (by omega), inRange_eq, Option.bind_some, riseAt_nat hk]
    cases h1 : (decide (0 ≤ l[k]) && decide (l[k] ≤ n - 1)) with
    | false => simp
    | true =>
      rcases Nat.eq_zero_or_pos k with rfl | hp
      · simp [wk64]
      · obtain ⟨j, rfl⟩ : ∃ j, k = j + 1 := ⟨k - 1, by omega⟩
        rw [wk64 (x := ((j + 1 : Nat) : Int) - 1) (by omega) (by omega), show ((j + 1 : Nat) : Int) - 1 = (j : Int) by omega, geti_nat, List.getElem?_eq_getElem (by omega)]
        rw [wk64 (by omega) (by omega)]
        have e : l.getD (j + 1 - 1) 0 = l[j] := by simp [show j < l.length by omega]
        rw [e]
        by_cases q : l[j] < l[j + 1]
        · simp [q, show ¬ l[j + 1] ≤ l[j] by omega]
        · simp [q, show l[j + 1] ≤ l[j] by omega]
  have := loopM_all (body := fun s' => impl_ascends_l1 l n s') (good := .inr ()) (bad := .inl false) (fun k => (k : Int)) l.length (riseAt l n) (fun k hk _ hp => by show impl_ascends_l1 l n k = _; rw [hb k hk, if_pos hp]) (fun k hk _ hp => by show impl_ascends_l1 l n k = _; rw [hb k hk, hp]; rfl) (fun _ => by
    show impl_ascends_l1 l n l.length = _
    unfold impl_ascends_l1
    rw [ifF (by simp)])
  rw [show (0 : Int) = ((0 : Nat) : Int) from rfl, this, Option.bind_some]
  unfold rise
  cases (List.range l.length).all (riseAt l n) <;> rfl
theorem l05Rise_eq {l : List Int} {n : Int} (hl : l.length ≤ 1000000000) (hn : 0 ≤ n) (hn2 : n ≤ 1000000000) : spec_l05Rise l n = some (rise l n) := by
  unfold spec_l05Rise
  have hb : ∀ k : Nat, k < l.length → spec_l05Rise_l1 l n k = some (if riseAt l n k = true then .inl ((k + 1 : Nat) : Int) else .inr (.inl false)) := by
    intro k hk
    unfold spec_l05Rise_l1
    rw [ifT (by simpa using hk), geti_nat, List.getElem?_eq_getElem hk, Option.bind_some, wk64 (x := n - 1) (by omega) (by omega), l01In_eq, Option.bind_some, riseAt_nat hk]
    cases h1 : (decide (0 ≤ l[k]) && decide (l[k] ≤ n - 1)) with
    | false => simp
    | true =>
      rcases Nat.eq_zero_or_pos k with rfl | hp
      · simp [wk64]
      · obtain ⟨j, rfl⟩ : ∃ j, k = j + 1 := ⟨k - 1, by omega⟩
        rw [wk64 (x := ((j + 1 : Nat) : Int) - 1) (by omega) (by omega), show ((j + 1 : Nat) : Int) - 1 = (j : Int) by omega, geti_nat, List.getElem?_eq_getElem (by omega)]
        rw [wk64 (by omega) (by omega)]
        have e : l.getD (j + 1 - 1) 0 = l[j] := by simp [show j < l.length by omega]
        rw [e]
        by_cases q : l[j] < l[j + 1]
        · simp [q, show ¬ l[j + 1] ≤ l[j] by omega]
        · simp [q, show l[j + 1] ≤ l[j] by omega]
  have := loopM_all (body := fun s' => spec_l05Rise_l1 l n s') (good := .inr ()) (bad := .inl false) (fun k => (k : Int)) l.length (riseAt l n) (fun k hk _ hp => by show spec_l05Rise_l1 l n k = _; rw [hb k hk, if_pos hp]) (fun k hk _ hp => by show spec_l05Rise_l1 l n k = _; rw [hb k hk, hp]; rfl) (fun _ => by
    show spec_l05Rise_l1 l n l.length = _
    unfold spec_l05Rise_l1
    rw [ifF (by simp)])
  rw [show (0 : Int) = ((0 : Nat) : Int) from rfl, this, Option.bind_some]
  unfold rise
  cases (List.range l.length).all (riseAt l n) <;> rfl
theorem gAt_nat {g : List (List Int)} {v : Nat} (hv : v < g.length) : gAt g v = (decide (g[v].length ≤ 4) && rise g[v] v) := by
  have : g.getD v [] = g[v] := by simp [hv]
  unfold gAt
  rw [this]
theorem graphOkI_eq {g : List (List Int)} (hl : g.length ≤ 10000000) : impl_GraphOk g = some (gOk g) := by
  unfold impl_GraphOk
  have hb : ∀ k : Nat, k < g.length → impl_GraphOk_l1 g k = some (if gAt g k = true then .inl ((k + 1 : Nat) : Int) else .inr (.inl false)) := by
    intro k hk
    unfold impl_GraphOk_l1
    rw [ifT (by simpa using hk), geti_nat, List.getElem?_eq_getElem hk, Option.bind_some, gAt_nat hk]
    by_cases h4 : g[k].length ≤ 4
    · rw [ascends_eq (by omega) (by omega) (by omega), wk64 (by omega) (by omega)]
      cases q : rise g[k] k <;> simp [h4, show ¬ (4 : Int) < (g[k].length : Int) by omega]
    · simp [h4, show (4 : Int) < (g[k].length : Int) by omega]
  have := loopM_all (body := fun s' => impl_GraphOk_l1 g s') (good := .inr ()) (bad := .inl false) (fun k => (k : Int)) g.length (gAt g) (fun k hk _ hp => by show impl_GraphOk_l1 g k = _; rw [hb k hk, if_pos hp]) (fun k hk _ hp => by show impl_GraphOk_l1 g k = _; rw [hb k hk, hp]; rfl) (fun _ => by
    show impl_GraphOk_l1 g g.length = _
    unfold impl_GraphOk_l1
    rw [ifF (by simp)])
  rw [show (0 : Int) = ((0 : Nat) : Int) from rfl, this, Option.bind_some]
  unfold gOk
  cases (List.range g.length).all (gAt g)
  · simp
  · simp [impl_GraphOk_j1, show (g.length : Int) ≤ 40 ↔ g.length ≤ 40 by omega]
theorem graphOkS_eq {g : List (List Int)} (hl : g.length ≤ 10000000) : spec_GraphOk g = some (gOk g) := by
  unfold spec_GraphOk
  by_cases h40 : g.length ≤ 40
  · rw [ifF (by simp; omega)]
    have hb : ∀ k : Nat, k < g.length → spec_GraphOk_l1 g k = some (if gAt g k = true then .inl ((k + 1 : Nat) : Int) else .inr (.inl false)) := by
      intro k hk
      unfold spec_GraphOk_l1
      rw [ifT (by simpa using hk), geti_nat, List.getElem?_eq_getElem hk, Option.bind_some, gAt_nat hk]
      by_cases h4 : g[k].length ≤ 4
      · rw [l05Rise_eq (by omega) (by omega) (by omega), wk64 (by omega) (by omega)]
        cases q : rise g[k] k <;> simp [h4, show ¬ (4 : Int) < (g[k].length : Int) by omega]
      · simp [h4, show (4 : Int) < (g[k].length : Int) by omega]
    have := loopM_all (body := fun s' => spec_GraphOk_l1 g s') (good := .inr ()) (bad := .inl false) (fun k => (k : Int)) g.length (gAt g) (fun k hk _ hp => by show spec_GraphOk_l1 g k = _; rw [hb k hk, if_pos hp]) (fun k hk _ hp => by show spec_GraphOk_l1 g k = _; rw [hb k hk, hp]; rfl) (fun _ => by
      show spec_GraphOk_l1 g g.length = _
      unfold spec_GraphOk_l1
      rw [ifF (by simp)])
    rw [show (0 : Int) = ((0 : Nat) : Int) from rfl, this, Option.bind_some]
    unfold gOk
    cases (List.range g.length).all (gAt g) <;> simp [h40, spec_GraphOk_j1]
  · rw [ifT (by simp; omega)]
    simp [gOk, h40]
/-- Sets, as the program holds them. -/
abbrev us (c : List Nat) : List Int := c.map fun (s : Nat) => (s : Int)
theorem unionOf_eq {c : List Nat} {l : List Int} (hc : ∀ x ∈ c, x < 2 ^ 64) (hl : ∀ x ∈ l, 0 ≤ x ∧ x < (c.length : Int)) (hll : l.length ≤ 1000000000) : impl_unionOf (us c) l = some ((orL c l : Nat) : Int) := by
  unfold impl_unionOf
  have := loopM_at (body := fun (s' : Int × Int) => impl_unionOf_l1 (us c) l s'.1 s'.2) (r := ((orL c l : Nat) : Int)) (fun k => (((orL c (l.take k) : Nat) : Int), (k : Int))) l.length (fun k hk => by
    show impl_unionOf_l1 (us c) l ((orL c (l.take k) : Nat) : Int) k = _
    unfold impl_unionOf_l1
    have hk2 := hl _ (List.getElem_mem hk)
    have e : c.getD l[k].toNat 0 = c[l[k].toNat]'(by omega) := by simp [show l[k].toNat < c.length by omega]
    rw [ifT (by simpa using hk), geti_nat, List.getElem?_eq_getElem hk, Option.bind_some, geti_in hk2.1 (by simp; omega), Option.bind_some, wk64 (by omega) (by omega), List.getElem_map,
      or_u64 (orL_lt hc _) (hc _ (List.getElem_mem _)), orL_take hk, e]
    rfl) (by
    show impl_unionOf_l1 (us c) l ((orL c (l.take l.length) : Nat) : Int) l.length = _
    unfold impl_unionOf_l1
    rw [ifF (by simp), List.take_length])
  have e0 : ((0 : Int), (0 : Int)) = (((orL c (l.take 0) : Nat) : Int), ((0 : Nat) : Int)) := rfl
  rw [e0, this]
  rfl
theorem closures_eq {g : List (List Int)} (hg : gOk g = true) : impl_closures g = some (us (closN g g.length)) := by
  have h40 := gOk_len hg
  unfold impl_closures
  rw [mkl_in (by omega) (by omega), Option.bind_some, Int.toNat_natCast]
  have := loopM_at (body := fun (s' : Int × (List Int)) => impl_closures_l1 g s'.1 s'.2) (r := us (closN g g.length)) (fun k => ((k : Int), us (closN g k))) g.length (fun k hk => by
    show impl_closures_l1 g k (us (closN g k)) = _
    unfold impl_closures_l1
    have hlt := closN_lt h40 k (by omega)
    have hm : ∀ x ∈ g[k], 0 ≤ x ∧ x < ((closN g k).length : Int) := fun x hx => by
      have := gOk_mem hg hk hx
      rw [closN_len]
      omega
    have e : g.getD k [] = g[k] := by simp [hk]
    rw [ifT (by simpa using hk), geti_nat, List.getElem?_eq_getElem hk, Option.bind_some, unionOf_eq hlt hm (by have := (gOk_at hg hk).1; omega), Option.bind_some, wku64 (by omega) (by omega), chk_in (by omega), Option.bind_some,
      geti_in (by omega) (by simp [closN_len]; omega), Option.bind_some, shl_one (by omega), or_u64 (orL_lt hlt _) (Nat.pow_lt_pow_right (by decide) (by omega)), wk64 (by omega) (by omega), Int.toNat_natCast, closN, e]
    simp [us, List.map_set]) (by
    show impl_closures_l1 g g.length (us (closN g g.length)) = _
    unfold impl_closures_l1
    rw [ifF (by simp)])
  have e0 : ((0 : Int), List.replicate g.length (0 : Int)) = (((0 : Nat) : Int), us (closN g 0)) := by simp [us, closN]
  rw [e0, this]
  rfl
theorem setHas_eq {s : Nat} {v : Int} (hs : s < 2 ^ 64) : impl_set_has (s : Int) v = some (decide (0 ≤ v) && decide (v ≤ 63) && s.testBit v.toNat) := by
  unfold impl_set_has
  rw [inRange_eq, Option.bind_some]
  cases h : (decide (0 ≤ v) && decide (v ≤ 63)) with
  | false => rfl
  | true =>
    have h' : 0 ≤ v ∧ v ≤ 63 := by simpa using h
    obtain ⟨n, rfl⟩ : ∃ n : Nat, v = n := ⟨v.toNat, by omega⟩
    rw [if_pos rfl, wku64 (by omega) (by omega), chk_in (by omega), Option.bind_some, shr_test s n hs (by omega), Int.toNat_natCast]
    rfl
theorem ints_snoc (l : List Nat) (v : Nat) : ints (l ++ [v]) = ints l ++ [(v : Int)] := by simp [ints]
theorem ints_len (l : List Nat) : (ints l).length = l.length := by simp [ints]
theorem setList_eq {s : Nat} (hs : s < 2 ^ 64) : impl_set_list (s : Int) = some (ints (bitsL s 64)) := by
  unfold impl_set_list
  have := loopM_at (body := fun (s' : Int × (List Int)) => impl_set_list_l1 (s : Int) s'.1 s'.2) (r := ints (bitsL s 64)) (fun k => ((k : Int), ints (bitsL s k))) 64 (fun k hk => by
    show impl_set_list_l1 (s : Int) k (ints (bitsL s k)) = _
    unfold impl_set_list_l1
    have hlen := bitsL_len s k
    have hh : (decide (0 ≤ (k : Int)) && decide ((k : Int) ≤ 63)) = true := by simp; omega
    rw [ifT (by simp; omega), setHas_eq hs, Option.bind_some, hh, Bool.true_and, Int.toNat_natCast, appn_in (by simp [ints_len]; omega), Option.bind_some, wk64 (by omega) (by omega), bitsL_succ]
    cases s.testBit k
    · simp
    · simp [ints_snoc]) (by
    show impl_set_list_l1 (s : Int) ((64 : Nat) : Int) (ints (bitsL s 64)) = _
    unfold impl_set_list_l1
    rw [ifF (by simp)])
  have e0 : ((0 : Int), ([] : List Int)) = (((0 : Nat) : Int), ints (bitsL s 0)) := rfl
  rw [e0, this]
  rfl
def closI (g : List (List Int)) (v : Int) : List Nat := if (decide (0 ≤ v) && decide (v < g.length) && gOk g) = true then bitsL (clo g v.toNat) 64 else []
theorem closureOfI_eq {g : List (List Int)} {v : Int} (hl : g.length ≤ 10000000) : impl_ClosureOf g v = some (ints (closI g v)) := by
  unfold impl_ClosureOf closI
  rw [isPlace_eq (by omega) (by omega), Option.bind_some, graphOkI_eq hl, Option.bind_some]
  cases h : (decide (0 ≤ v) && decide (v < (g.length : Int))) with
  | false => simp [ints]
  | true =>
    cases h2 : gOk g with
    | false => simp [ints]
    | true =>
      have h' : 0 ≤ v ∧ v < (g.length : Int) := by simpa using h
      have e : (closN g g.length)[v.toNat]'(by rw [closN_len]; omega) = clo g v.toNat := by simp [clo, closN_len, show v.toNat < g.length by omega]
      rw [closures_eq h2]
      simp only [Bool.not_true, Bool.false_eq_true, if_false, Option.bind_some, Bool.and_self, if_true]
      rw [geti_in h'.1 (by simp [closN_len]; omega), Option.bind_some, List.getElem_map, e, setList_eq (clo_lt h2 _)]
      rfl
/-! ### The reference -/
theorem l05Has_eq {g : List (List Int)} {v : Int} (hl : g.length ≤ 10000000) : spec_l05Has g v = some (gOk g && (decide (0 ≤ v) && decide (v < g.length))) := by
  unfold spec_l05Has
  rw [graphOkS_eq hl, Option.bind_some, wk64 (by omega) (by omega), l01In_eq, Option.bind_some]
  have : decide (v ≤ (g.length : Int) - 1) = decide (v < (g.length : Int)) := by simp only [decide_eq_decide]; omega
  rw [this]
  cases gOk g <;> rfl
theorem l05List_eq {b : List Bool} (hb : b.length ≤ 1000000000) : spec_l05List b = some (ints (trues b b.length)) := by
  unfold spec_l05List
  have := loopM_at (body := fun (s' : Int × (List Int)) => spec_l05List_l1 b s'.1 s'.2) (r := ints (trues b b.length)) (fun k => ((k : Int), ints (trues b k))) b.length (fun k hk => by
    show spec_l05List_l1 b k (ints (trues b k)) = _
    unfold spec_l05List_l1
    have hlen := trues_len b k
    have e : b.getD k false = b[k] := by simp [hk]
    rw [ifT (by simpa using hk), geti_nat, List.getElem?_eq_getElem hk, Option.bind_some, appn_in (by simp [ints_len]; omega), Option.bind_some, wk64 (by omega) (by omega), trues_succ, e]
    cases b[k]
    · simp
    · simp [ints_snoc]) (by
    show spec_l05List_l1 b b.length (ints (trues b b.length)) = _
    unfold spec_l05List_l1
    rw [ifF (by simp)])
  have e0 : ((0 : Int), ([] : List Int)) = (((0 : Nat) : Int), ints (trues b 0)) := rfl
  rw [e0, this]
  rfl
theorem mark_keep {b : List Bool} {l : List Int} {v : Nat} (h : b.getD v false = true) : (mark b l).getD v false = true := by rw [mark_get, h]; rfl
theorem l05Set_eq {g : List (List Int)} {l : List Int} (hg : gOk g = true) (hl : l.length ≤ 1000000000) : spec_l05Set g l = some (setL g l) := by
  have h40 := gOk_len hg
  unfold spec_l05Set
  rw [mkl_in (by omega) (by omega), Option.bind_some, Int.toNat_natCast]
  have h1 := loopM_at (body := fun (s' : Int × (List Bool)) => spec_l05Set_l3 g l s'.1 s'.2) (r := mark (List.replicate g.length false) l) (fun k => ((k : Int), mark (List.replicate g.length false) (l.take k))) l.length (fun k hk => by
    show spec_l05Set_l3 g l k (mark (List.replicate g.length false) (l.take k)) = _
    unfold spec_l05Set_l3
    rw [ifT (by simpa using hk), geti_nat, List.getElem?_eq_getElem hk, Option.bind_some, wk64 (x := (g.length : Int) - 1) (by omega) (by omega), l01In_eq, Option.bind_some, wk64 (by omega) (by omega), mark_take hk, List.length_replicate]
    by_cases h : 0 ≤ l[k] ∧ l[k] < (g.length : Int)
    · rw [if_pos h, ifT (by simp; omega), geti_in h.1 (by rw [mark_len]; simp; omega)]
      rfl
    · rw [if_neg h, ifF (by simp; omega)]
      rfl) (by
    show spec_l05Set_l3 g l l.length (mark (List.replicate g.length false) (l.take l.length)) = _
    unfold spec_l05Set_l3
    rw [ifF (by simp), List.take_length])
  have e0 : ((0 : Int), List.replicate g.length false) = (((0 : Nat) : Int), mark (List.replicate g.length false) (l.take 0)) := rfl
  rw [e0, h1, Option.bind_some]
  unfold spec_l05Set_j1
  have hlen0 : (mark (List.replicate g.length false) l).length = g.length := by rw [mark_len]; simp
  -- the states of the second loop
  let B : Nat → List Bool := fun k => Nat.rec (mark (List.replicate g.length false) l) (fun k b => step g b (g.length - 1 - k)) k
  have B0 : B 0 = mark (List.replicate g.length false) l := rfl
  have BS : ∀ k, B (k + 1) = step g (B k) (g.length - 1 - k) := fun k => rfl
  have Blen : ∀ k, (B k).length = g.length := by
    intro k
    induction k with
    | zero => exact hlen0
    | succ k ih =>
      rw [BS, step]
      split
      · rw [mark_len]; exact ih
      · exact ih
  have Bd : ∀ m k, k + m = g.length → down g m (B k) = down g 0 (B g.length) := by
    intro m
    induction m with
    | zero => intro k hk; rw [Nat.add_zero] at hk; subst hk; rfl
    | succ m ih =>
      intro k hk
      have := ih (k + 1) (by omega)
      rw [BS, show g.length - 1 - k = m by omega] at this
      exact this
  have h2 := loopM_at (body := fun (s' : Int × (List Bool)) => spec_l05Set_l1 g s'.1 s'.2) (r := B g.length) (fun k => ((g.length : Int) - 1 - k, B k)) g.length (fun k hk => by
    show spec_l05Set_l1 g ((g.length : Int) - 1 - k) (B k) = _
    unfold spec_l05Set_l1
    obtain ⟨v, hv⟩ : ∃ v, g.length - 1 - k = v := ⟨_, rfl⟩
    have ev : (g.length : Int) - 1 - k = (v : Int) := by omega
    have hvl : v < g.length := by omega
    have Bl := Blen k
    rw [ev, ifT (by simp)]
    have egv : g.getD v [] = g[v] := by simp [hvl]
    have h3 := loopM_at (body := fun (s' : Int × (List Bool)) => spec_l05Set_l2 g v s'.1 s'.2) (r := step g (B k) v) (fun j => ((j : Int), mark (B k) (g[v].take j))) (if (B k).getD v false = true then g[v].length else 0) (fun j hj => by
      show spec_l05Set_l2 g v j (mark (B k) (g[v].take j)) = _
      unfold spec_l05Set_l2
      split at hj
      case isFalse => omega
      rename_i hb
      have hmem := gOk_mem hg hvl (List.getElem_mem hj)
      have hml : (mark (B k) (g[v].take j)).length = g.length := by rw [mark_len]; exact Bl
      have hkeep : (mark (B k) (g[v].take j))[v]? = some true := by
        have := mark_keep (l := g[v].take j) hb
        rw [List.getD_eq_getElem?_getD] at this
        rw [List.getElem?_eq_getElem (by omega)] at this ⊢
        simpa using this
      rw [geti_nat, List.getElem?_eq_getElem hvl, Option.bind_some, ifT (by simpa using hj), geti_nat, hkeep]
      simp only [Option.bind_some]
      rw [if_pos trivial, geti_nat, List.getElem?_eq_getElem hj, Option.bind_some, geti_in hmem.1 (by omega), Option.bind_some, wk64 (by have := (gOk_at hg hvl).1; omega) (by have := (gOk_at hg hvl).1; omega), mark_take hj, if_pos (by omega)]
      rfl) (by
      show spec_l05Set_l2 g v ((if (B k).getD v false = true then g[v].length else 0 : Nat) : Int) (mark (B k) (g[v].take (if (B k).getD v false = true then g[v].length else 0))) = _
      unfold spec_l05Set_l2 step
      rw [geti_nat, List.getElem?_eq_getElem hvl, Option.bind_some]
      split
      · rename_i hb
        rw [List.take_length, ifF (by simp), egv]
        simp
      · rename_i hb
        have hf : (B k)[v]? = some false := by
          rw [List.getD_eq_getElem?_getD, List.getElem?_eq_getElem (by omega)] at hb
          rw [List.getElem?_eq_getElem (by omega)]
          simpa using hb
        rw [List.take_zero, show mark (B k) [] = B k from rfl, geti_nat, hf]
        by_cases q : (((0 : Nat) : Int) < (g[v].length : Int)) <;> simp [q])
    have e2 : ((0 : Int), B k) = (((0 : Nat) : Int), mark (B k) (g[v].take 0)) := rfl
    rw [e2, h3, Option.bind_some]
    unfold spec_l05Set_j3
    rw [wk64 (by omega) (by omega), BS, hv, show ((v : Int) - 1) = (g.length : Int) - 1 - ((k + 1 : Nat) : Int) by omega]) (by
    show spec_l05Set_l1 g ((g.length : Int) - 1 - g.length) (B g.length) = _
    unfold spec_l05Set_l1
    rw [ifF (by simp; omega)])
  have e3 : (wk .i64 ((g.length : Int) - 1), mark (List.replicate g.length false) l) = ((g.length : Int) - 1 - ((0 : Nat) : Int), B 0) := by rw [wk64 (by omega) (by omega), B0]; simp
  rw [e3, h2, Option.bind_some]
  unfold spec_l05Set_j2 setL
  have := Bd g.length 0 (by omega)
  rw [B0] at this
  rw [this]
  rfl
theorem closureOfS_eq {g : List (List Int)} {v : Int} (hl : g.length ≤ 10000000) : spec_ClosureOf g v = some (ints (closI g v)) := by
  unfold spec_ClosureOf closI
  rw [l05Has_eq hl, Option.bind_some]
  cases h2 : gOk g with
  | false => simp [ints]
  | true =>
    cases h : (decide (0 ≤ v) && decide (v < (g.length : Int))) with
    | false => simp [ints]
    | true =>
      have h' : 0 ≤ v ∧ v < (g.length : Int) := by simpa using h
      rw [l05Set_eq h2 (by simp)]
      simp only [Bool.and_true, Bool.not_true, Bool.false_eq_true, if_false, Option.bind_some, Bool.and_self, if_true]
      rw [l05List_eq (by rw [setL_len]; have := gOk_len h2; omega), Option.bind_some, setL_len, setL_bits h2 _ (by simpa using h')]
      have : orL (closN g g.length) [v] = clo g v.toNat := by simp [orL, clo]
      rw [this]
end Go.TV.F
/- Plain Lean: a list as a set of bits. -/
namespace Go.TV.F
open Go.TV

def inB (x : Int) : Bool := decide (0 ≤ x) && decide (x ≤ 63)
def setN (l : List Int) : Nat := l.foldl (fun (s : Nat) (x : Int) => if inB x = true then s ||| 2 ^ x.toNat else s) 0
theorem setN_snoc (l : List Int) (x : Int) : setN (l ++ [x]) = if inB x = true then setN l ||| 2 ^ x.toNat else setN l := by
  simp [setN]
theorem setN_take {l : List Int} {i : Nat} (hi : i < l.length) : setN (l.take (i + 1)) = if inB l[i] = true then setN (l.take i) ||| 2 ^ l[i].toNat else setN (l.take i) := by
  rw [List.take_succ_eq_append_getElem hi, setN_snoc]
theorem inB_lt {x : Int} (h : inB x = true) : 0 ≤ x ∧ x ≤ 63 := by simpa [inB] using h
theorem fold_lt (l : List Int) : ∀ s : Nat, s < 2 ^ 64 → l.foldl (fun (s : Nat) (x : Int) => if inB x = true then s ||| 2 ^ x.toNat else s) s < 2 ^ 64 := by
  induction l with
  | nil => intro s h; exact h
  | cons x l ih =>
    intro s h
    rw [List.foldl_cons]
    refine ih _ ?_
    split
    · rename_i q
      have := inB_lt q
      exact Nat.or_lt_two_pow h (Nat.pow_lt_pow_right (by decide) (by omega))
    · exact h
theorem setN_lt (l : List Int) : setN l < 2 ^ 64 := fold_lt l 0 (by decide)
theorem fold_test (l : List Int) (u : Nat) : ∀ s : Nat, (l.foldl (fun (s : Nat) (x : Int) => if inB x = true then s ||| 2 ^ x.toNat else s) s).testBit u = (s.testBit u || l.any fun x => inB x && (x == (u : Int))) := by
  induction l with
  | nil => intro s; simp
  | cons x l ih =>
    intro s
    rw [List.foldl_cons, ih, List.any_cons]
    by_cases q : inB x = true
    · have := inB_lt q
      rw [if_pos q, Nat.testBit_or, Nat.testBit_two_pow, q, Bool.true_and, Bool.or_assoc]
      have e : decide (x.toNat = u) = (x == (u : Int)) := by
        rw [Bool.eq_iff_iff]
        simp
        omega
      rw [e]
    · rw [if_neg q]
      have q : inB x = false := by simpa using q
      rw [q]
      simp
theorem setN_test (l : List Int) (u : Nat) : (setN l).testBit u = l.any fun x => inB x && (x == (u : Int)) := by
  unfold setN
  rw [fold_test]
  simp
theorem shlU {a n : Nat} (hn : n < 64) (h : a * 2 ^ n < 2 ^ 64) : shlI .u64 (a : Int) (n : Int) = ((a * 2 ^ n : Nat) : Int) := by
  unfold shlI
  rw [Int.toNat_natCast, show min n IntKind.u64.bits = n by simp [IntKind.bits]; omega]
  have e : ((a : Int) * (2 : Int) ^ n) = ((a * 2 ^ n : Nat) : Int) := by simp
  rw [e]
  exact wku64 (Int.natCast_nonneg _) (Int.ofNat_lt.2 (show a * 2 ^ n < 18446744073709551616 from h))
theorem shrU {a n : Nat} (hn : n < 64) : shrI .u64 (a : Int) (n : Int) = ((a / 2 ^ n : Nat) : Int) := by
  unfold shrI
  rw [Int.toNat_natCast, show min n IntKind.u64.bits = n by simp [IntKind.bits]; omega]
  simp
theorem setOf_eq {l : List Int} (hl : l.length ≤ 1000000000) : impl_setOf l = some ((setN l : Nat) : Int) := by
  unfold impl_setOf
  have := loopM_at (body := fun (s' : Int × Int) => impl_setOf_l1 l s'.1 s'.2) (r := ((setN l : Nat) : Int)) (fun k => (((setN (l.take k) : Nat) : Int), (k : Int))) l.length (fun k hk => by
    show impl_setOf_l1 l _ (k : Int) = _
    unfold impl_setOf_l1
    rw [ifT (by simpa using hk), geti_nat, List.getElem?_eq_getElem hk, Option.bind_some, inRange_eq, Option.bind_some, wk64 (x := (k : Int) + 1) (by omega) (by omega), setN_take hk]
    show (if inB l[k] = true then _ else _) = _
    by_cases q : inB l[k] = true
    · have h := inB_lt q
      rw [if_pos q, if_pos q, wku64 (x := l[k]) (by omega) (by omega), chk_in (by omega), Option.bind_some]
      obtain ⟨n, hn⟩ : ∃ n : Nat, l[k] = n := ⟨l[k].toNat, by omega⟩
      have h1 := setN_lt (l.take k)
      have h2 : (2 : Nat) ^ n < 2 ^ 64 := Nat.pow_lt_pow_right (by decide) (by omega)
      rw [hn, shl_one (by omega), or_u64 h1 h2]
      rfl
    · rw [if_neg q, if_neg q]
      rfl) (by
    show impl_setOf_l1 l _ (l.length : Int) = _
    unfold impl_setOf_l1
    rw [ifF (by simp), List.take_length])
  rw [show ((0 : Int), (0 : Int)) = (((setN (l.take 0) : Nat) : Int), ((0 : Nat) : Int)) from rfl, this]
  rfl
end Go.TV.F
/- Plain Lean: bytes; lines that are right. -/
namespace Go.TV.F
open Go.TV
theorem wkS (k : Nat) (h : k < 1000000000) : wk .i64 ((k : Int) + 1) = ((k + 1 : Nat) : Int) := by rw [wk64 (by omega) (by omega)]; omega
theorem toList_loop (bs : ByteArray) : ∀ (m i : Nat) (r : List UInt8), i + m = bs.size → ByteArray.toList.loop bs i r = r.reverse ++ bs.data.toList.drop i
  | 0, i, r, h => by
    rw [ByteArray.toList.loop, if_neg (by omega), List.drop_eq_nil_of_le (by show bs.data.toList.length ≤ i; have : bs.data.toList.length = bs.size := rfl; omega), List.append_nil]
  | m + 1, i, r, h => by
    have hi : i < bs.data.toList.length := by have : bs.data.toList.length = bs.size := rfl; omega
    rw [ByteArray.toList.loop, if_pos (by omega), toList_loop bs m (i + 1) _ (by omega), List.drop_eq_getElem_cons hi]
    have e : bs.get! i = bs.data.toList[i] := by
      show bs.data[i]! = _
      rw [getElem!_pos bs.data i (by simpa using hi)]
      simp
    rw [e]
    simp
theorem toList_eq (bs : ByteArray) : bs.toList = bs.data.toList := by
  unfold ByteArray.toList
  rw [toList_loop bs bs.size 0 [] (by omega)]
  simp
/-- The bytes of a text, as numbers. -/
def nb (s : ByteArray) : List Nat := s.data.toList.map UInt8.toNat
theorem nb_len (s : ByteArray) : (nb s).length = s.size := by simp [nb]
theorem nb_inj {s t : ByteArray} (h : nb s = nb t) : s = t := by
  have : s.data.toList = t.data.toList := List.map_inj_right (fun a b hab => UInt8.toNat_inj.1 hab) |>.1 h
  exact ByteArray.ext (Array.toList_inj.1 this)
theorem beq_nb (s t : ByteArray) : (s.toList == t.toList) = decide (nb s = nb t) := by
  rw [toList_eq, toList_eq]
  by_cases h : nb s = nb t
  · have := nb_inj h
    subst this
    simp
  · rw [decide_eq_false h, beq_eq_false_iff_ne]
    intro he
    exact h (by unfold nb; rw [he])
theorem nb_lt {s : ByteArray} {x : Nat} (h : x ∈ nb s) : x < 256 := by
  obtain ⟨b, _, rfl⟩ := List.mem_map.1 h
  exact UInt8.toNat_lt b
theorem sidx_nb {s : ByteArray} {k : Nat} (h : k < s.size) : ∃ b : Nat, sidx s (k : Int) = some (b : Int) ∧ (nb s)[k]? = some b ∧ b < 256 := by
  unfold sidx
  rw [if_neg (by omega), Int.toNat_natCast, if_pos h]
  have hk : k < s.data.size := h
  refine ⟨(s.data[k]).toNat, ?_, ?_, UInt8.toNat_lt _⟩
  · unfold bt
    congr 2
    rw [Array.getD_eq_getD_getElem?, Array.getElem?_eq_getElem hk]
    rfl
  · simp [nb, hk, Array.getElem?_eq_getElem hk]
theorem nb_extract (s : ByteArray) (a b : Nat) : nb (s.extract a b) = ((nb s).drop a).take (b - a) := by
  have : (s.extract a b).data = s.data.extract a b := ByteArray.data_extract
  unfold nb
  rw [this, Array.toList_extract]
  simp [List.extract]
theorem nb_mkS {l : List Nat} (h : ∀ x ∈ l, x < 256) : nb (mkS (l.map fun x : Nat => (x : Int))) = l := by
  unfold nb mkS
  simp only [List.map_map]
  conv => rhs; rw [← List.map_id l]
  apply List.map_congr_left
  intro x hx
  have := h x hx
  simp
  omega
theorem nb_append (s t : ByteArray) : nb (s ++ t) = nb s ++ nb t := by
  unfold nb
  rw [ByteArray.data_append]
  simp
theorem mkS_app (l m : List Int) : mkS (l ++ m) = mkS l ++ mkS m := by
  apply ByteArray.ext
  simp [mkS, ByteArray.data_append]
theorem mkS_size (l : List Int) : (mkS l).size = l.length := by
  show (mkS l).data.size = _
  simp [mkS]
/-- A number's bytes. -/
def lineB (s : ByteArray) : Bool := decide (s.size ≤ 60) && decide ((10 : Nat) ∉ nb s)
theorem lineS_eq {s : ByteArray} (h : s.size ≤ 1000000000) : spec_LineOk s = some (lineB s) := by
  unfold spec_LineOk lineB
  have hl := nb_len s
  have := loopM_all (body := fun s' => spec_LineOk_l1 s s') (good := .inr ()) (bad := .inl false) (fun k => (k : Int)) s.size (fun k => decide ((nb s)[k]? ≠ some 10)) (fun k hk _ hp => by
    obtain ⟨b, g1, g2, _⟩ := sidx_nb hk
    unfold spec_LineOk_l1
    rw [ifT (by simpa using hk), g1, Option.bind_some]
    rw [g2] at hp
    have hb : ¬ b = 10 := by simpa using hp
    rw [ifF (by simp; omega), wkS k (by omega)]) (fun k hk _ hp => by
    obtain ⟨b, g1, g2, _⟩ := sidx_nb hk
    unfold spec_LineOk_l1
    rw [ifT (by simpa using hk), g1, Option.bind_some]
    rw [g2] at hp
    have hb : b = 10 := by simpa using hp
    rw [ifT (by simp; omega)]) (fun _ => by
    unfold spec_LineOk_l1
    rw [ifF (by simp)])
  have e0 : ((0 : Nat) : Int) = 0 := rfl
  rw [e0] at this
  rw [this]
  have hiff : ((List.range s.size).all fun k => decide ((nb s)[k]? ≠ some 10)) = decide ((10 : Nat) ∉ nb s) := by
    rw [Bool.eq_iff_iff, List.all_eq_true, decide_eq_true_eq]
    constructor
    · intro hh hm
      obtain ⟨k, hk, hk2⟩ := List.getElem_of_mem hm
      have := hh k (List.mem_range.2 (by omega))
      rw [List.getElem?_eq_getElem hk, hk2] at this
      simp at this
    · intro hh k hk
      simp only [decide_eq_true_eq]
      intro hq
      exact hh (List.mem_of_getElem? hq)
  rw [hiff]
  unfold spec_LineOk_j1
  cases decide ((10 : Nat) ∉ nb s) with
  | true =>
    simp
    omega
  | false => simp
theorem idxB_iff (s : ByteArray) : decide (idxB s 10 ≥ 0) = decide ((10 : Nat) ∈ nb s) := by
  unfold idxB
  have hl := nb_len s
  have hat : ∀ i, i < s.size → ((s[i]! == (10 : Int).toNat.toUInt8) = true ↔ (nb s)[i]? = some 10) := by
    intro i hi
    have e1 : s[i]! = s.data[i]'(hi) := by
      rw [getElem!_pos s i hi]
      rfl
    have e2 : (nb s)[i]? = some (s.data[i]'(hi)).toNat := by
      unfold nb
      rw [List.getElem?_map, Array.getElem?_toList, Array.getElem?_eq_getElem hi]
      rfl
    rw [e1, e2, beq_iff_eq, Option.some.injEq]
    constructor
    · intro h
      rw [h]
      rfl
    · intro h
      apply UInt8.toNat_inj.1
      rw [h]
      rfl
  cases h : (List.range s.size).find? fun i => s[i]! == (10 : Int).toNat.toUInt8 with
  | some i =>
    have h1 := List.find?_some h
    have h2 := List.mem_range.1 (List.mem_of_find?_eq_some h)
    have := (hat i h2).1 h1
    rw [decide_eq_true (List.mem_of_getElem? this)]
    simp
  | none =>
    have h1 := List.find?_eq_none.1 h
    have : (10 : Nat) ∉ nb s := fun hm => by
      obtain ⟨k, hk, hk2⟩ := List.getElem_of_mem hm
      refine h1 k (List.mem_range.2 (by omega)) ((hat k (by omega)).2 ?_)
      rw [List.getElem?_eq_getElem hk, hk2]
    rw [decide_eq_false this]
    simp
theorem lineI_eq {s : ByteArray} : impl_LineOk s = some (lineB s) := by
  unfold impl_LineOk lineB
  by_cases q : s.size ≤ 60
  · rw [ifT (by simp; omega)]
    have hc : strings_Contains s (ByteArray.mk #[10]) = some (decide ((10 : Nat) ∈ nb s)) := by
      unfold strings_Contains strings_Index internal_stringslite_Index
      have e1 : ((ByteArray.mk #[10]).size : Int) = 1 := rfl
      rw [e1]
      rw [ifF (by decide)]
      simp only [Option.bind_some]
      cases h : ((ByteArray.mk #[10]).toList == s.toList) with
      | true =>
        simp only [if_true, Option.bind_some]
        rw [beq_nb] at h
        have h' : nb (ByteArray.mk #[10]) = nb s := by simpa using h
        rw [← h']
        rfl
      | false =>
        simp only [Bool.false_eq_true, if_false]
        rw [ifT (by decide)]
        have : sidx (ByteArray.mk #[10]) 0 = some 10 := rfl
        rw [this]
        simp only [Option.bind_some, internal_stringslite_IndexByte]
        rw [idxB_iff]
    rw [hc]
    simp only [Option.bind_some]
    have : decide (s.size ≤ 60) = true := decide_eq_true q
    rw [this, Bool.true_and]
    congr 1
    by_cases h : (10 : Nat) ∈ nb s <;> simp [h]
  · rw [ifF (by simp; omega)]
    simp [q]
def linesB (l : List ByteArray) : Bool := decide (l.length ≤ 80) && l.all lineB
theorem all_range {α : Type} (l : List α) (p : α → Bool) : ((List.range l.length).all fun k => (l[k]?.map p).getD true) = l.all p := by
  rw [Bool.eq_iff_iff, List.all_eq_true, List.all_eq_true]
  constructor
  · intro h x hx
    obtain ⟨k, hk, rfl⟩ := List.getElem_of_mem hx
    have := h k (List.mem_range.2 hk)
    rw [List.getElem?_eq_getElem hk] at this
    exact this
  · intro h k hk
    rw [List.getElem?_eq_getElem (List.mem_range.1 hk)]
    exact h _ (List.getElem_mem _)
theorem linesI_eq {l : List ByteArray} : impl_LinesOk l = some (linesB l) := by
  unfold impl_LinesOk linesB
  by_cases q : l.length ≤ 80
  · rw [ifT (by simp; omega), decide_eq_true q, Bool.true_and]
    unfold impl_areLines
    have := loopM_all (body := fun s' => impl_areLines_l1 l s') (good := .inr ()) (bad := .inl false) (fun k => (k : Int)) l.length (fun k => (l[k]?.map lineB).getD true) (fun k hk _ hp => by
      unfold impl_areLines_l1
      rw [List.getElem?_eq_getElem hk] at hp
      rw [ifT (by simpa using hk), geti_nat, List.getElem?_eq_getElem hk, Option.bind_some, lineI_eq, Option.bind_some, ifF (by simpa using hp), wkS k (by omega)]) (fun k hk _ hp => by
      unfold impl_areLines_l1
      rw [List.getElem?_eq_getElem hk] at hp
      rw [ifT (by simpa using hk), geti_nat, List.getElem?_eq_getElem hk, Option.bind_some, lineI_eq, Option.bind_some, ifT (by simpa using hp)]) (fun _ => by
      unfold impl_areLines_l1
      rw [ifF (by simp)])
    have e0 : ((0 : Nat) : Int) = 0 := rfl
    rw [e0] at this
    rw [this, all_range]
    cases l.all lineB <;> rfl
  · rw [ifF (by simp; omega), decide_eq_false q]
    rfl
theorem linesS_eq {l : List ByteArray} (hx : ∀ x ∈ l, x.size ≤ 1000000000) : spec_LinesOk l = some (linesB l) := by
  unfold spec_LinesOk spec_l03All linesB
  by_cases q : l.length ≤ 80
  · rw [ifF (by simp; omega), decide_eq_true q, Bool.true_and]
    have := loopM_all (body := fun s' => spec_l03All_l1 l s') (good := .inr ()) (bad := .inl false) (fun k => (k : Int)) l.length (fun k => (l[k]?.map lineB).getD true) (fun k hk _ hp => by
      unfold spec_l03All_l1
      rw [List.getElem?_eq_getElem hk] at hp
      rw [ifT (by simpa using hk), geti_nat, List.getElem?_eq_getElem hk, Option.bind_some, lineS_eq (hx _ (List.getElem_mem hk)), Option.bind_some, ifF (by simpa using hp), wkS k (by omega)]) (fun k hk _ hp => by
      unfold spec_l03All_l1
      rw [List.getElem?_eq_getElem hk] at hp
      rw [ifT (by simpa using hk), geti_nat, List.getElem?_eq_getElem hk, Option.bind_some, lineS_eq (hx _ (List.getElem_mem hk)), Option.bind_some, ifT (by simpa using hp)]) (fun _ => by
      unfold spec_l03All_l1
      rw [ifF (by simp)])
    have e0 : ((0 : Nat) : Int) = 0 := rfl
    rw [e0] at this
    rw [this, all_range]
    cases l.all lineB <;> rfl
  · rw [ifT (by simp; omega), decide_eq_false q]
    rfl
end Go.TV.F
/- Plain Lean: weaves that are right, and what is live in them. -/
namespace Go.TV.F
open Go.TV

/-! ### Loops over lists -/
def goE {α β ρ : Type} (step : Nat → β → α → β ⊕ ρ) (fin : β → ρ) : List α → Nat → β → ρ
  | [], _, b => fin b
  | x :: l, i, b => match step i b x with
    | .inl b' => goE step fin l (i + 1) b'
    | .inr r => r
theorem loopE {S ρ α β : Type} {body : S → Option (S ⊕ ρ)} (mk : Nat → β → S) (l : List α) (step : Nat → β → α → β ⊕ ρ) (fin : β → ρ) (I : Nat → β → Prop)
    (hs : ∀ (i : Nat) (x : α) (b : β), l[i]? = some x → i < l.length → I i b → (∃ b', step i b x = .inl b' ∧ body (mk i b) = some (.inl (mk (i + 1) b')) ∧ I (i + 1) b') ∨ ∃ r, step i b x = .inr r ∧ body (mk i b) = some (.inr r))
    (he : ∀ b, I l.length b → body (mk l.length b) = some (.inr (fin b))) {b0 : β} (h0 : I 0 b0) : loopM body (mk 0 b0) = some (goE step fin l 0 b0) := by
  have key : ∀ (l' pre : List α) (b : β), l = pre ++ l' → I pre.length b → loopM body (mk pre.length b) = some (goE step fin l' pre.length b) := by
    intro l'
    induction l' with
    | nil =>
      intro pre b h hI
      rw [List.append_nil] at h
      subst h
      rw [loopM_eq, he b hI]
      rfl
    | cons x l' ih =>
      intro pre b h hI
      have hx : l[pre.length]? = some x := by rw [h]; simp
      have hlt : pre.length < l.length := by rw [h]; simp
      rw [loopM_eq]
      rcases hs pre.length x b hx hlt hI with ⟨b', h1, h2, h3⟩ | ⟨r, h1, h2⟩
      · rw [h2]
        have := ih (pre ++ [x]) b' (by simp [h]) (by simpa using h3)
        simp only [List.length_append, List.length_singleton] at this
        simp only [goE, h1]
        exact this
      · rw [h2]
        have : goE step fin (x :: l') pre.length b = r := by simp only [goE, h1]
        rw [this]
        rfl
  exact key l [] b0 rfl h0
theorem loopAllL {ρ α : Type} {body : Int → Option (Int ⊕ ρ)} {good bad : ρ} (l : List α) (p : α → Bool) (hs : ∀ (i : Nat) (x : α), l[i]? = some x → i < l.length → body (i : Int) = some (if p x = true then .inl ((i + 1 : Nat) : Int) else .inr bad))
    (he : body (l.length : Int) = some (.inr good)) : loopM body 0 = some (if l.all p = true then good else bad) := by
  have key : ∀ (l' pre : List α), l = pre ++ l' → loopM body (pre.length : Int) = some (if l'.all p = true then good else bad) := by
    intro l'
    induction l' with
    | nil =>
      intro pre h
      rw [List.append_nil] at h
      subst h
      rw [loopM_eq, he]
      rfl
    | cons x l' ih =>
      intro pre h
      have hx : l[pre.length]? = some x := by rw [h]; simp
      have hlt : pre.length < l.length := by rw [h]; simp
      rw [loopM_eq, hs _ _ hx hlt, List.all_cons]
      cases q : p x with
      | true =>
        have := ih (pre ++ [x]) (by simp [h])
        simp only [List.length_append, List.length_singleton] at this
        simpa using this
      | false => rfl
  exact key l [] rfl
/-- The places at which p holds, from i on. -/
def idxs {α : Type} (p : α → Bool) : List α → Nat → List Nat
  | [], _ => []
  | x :: l, i => if p x = true then i :: idxs p l (i + 1) else idxs p l (i + 1)
theorem idxs_len {α : Type} (p : α → Bool) : ∀ (l : List α) (i : Nat), (idxs p l i).length ≤ l.length
  | [], _ => Nat.le_refl _
  | x :: l, i => by
    have := idxs_len p l (i + 1)
    simp only [idxs]
    split <;> simp <;> omega
theorem idxs_mem {α : Type} (p : α → Bool) : ∀ (l : List α) (i j : Nat), j ∈ idxs p l i ↔ i ≤ j ∧ ∃ x, l[j - i]? = some x ∧ p x = true
  | [], i, j => by simp [idxs]
  | x :: l, i, j => by
    have ih := idxs_mem p l (i + 1) j
    simp only [idxs]
    have hs : i + 1 ≤ j → (x :: l)[j - i]? = l[j - (i + 1)]? := fun h => by
      rw [show j - i = (j - (i + 1)) + 1 by omega, List.getElem?_cons_succ]
    split
    · rename_i hp
      rw [List.mem_cons, ih]
      constructor
      · rintro (rfl | ⟨h1, h2⟩)
        · exact ⟨Nat.le_refl _, x, by simp, hp⟩
        · exact ⟨by omega, by rw [hs h1]; exact h2⟩
      · rintro ⟨h1, y, h2, h3⟩
        rcases Nat.eq_or_lt_of_le h1 with q | q
        · exact .inl q.symm
        · exact .inr ⟨q, y, by rw [← hs q]; exact h2, h3⟩
    · rename_i hp
      rw [ih]
      constructor
      · rintro ⟨h1, h2⟩
        exact ⟨by omega, by rw [hs h1]; exact h2⟩
      · rintro ⟨h1, y, h2, h3⟩
        rcases Nat.eq_or_lt_of_le h1 with q | q
        · subst q
          simp only [Nat.sub_self, List.getElem?_cons_zero, Option.some.injEq] at h2
          subst h2
          exact absurd h3 hp
        · exact ⟨q, y, by rw [← hs q]; exact h2, h3⟩
theorem idxs_go {α : Type} (p : α → Bool) : ∀ (l : List α) (i : Nat) (out : List Int), goE (ρ := List Int) (fun i (b : List Int) x => .inl (if p x = true then b ++ [(i : Int)] else b)) id l i out = out ++ ints (idxs p l i)
  | [], _, out => by simp [goE, idxs, ints]
  | x :: l, i, out => by
    simp only [goE, idxs]
    rw [idxs_go p l (i + 1)]
    split <;> simp [ints]
theorem ints_ne {l : List Nat} : ∀ x ∈ ints l, 0 ≤ x := fun x hx => by
  obtain ⟨n, _, rfl⟩ := List.mem_map.1 hx
  omega

/-! ### What is live -/
def outB (s : Nat) (d : Int) : Bool := !(inB d && s.testBit d.toNat)
def liveN (s : Nat) (b : T_impl_Body) : Bool := (inB b.Ins && s.testBit b.Ins.toNat) && b.Dels.all (outB s)
theorem has_eq {s : Nat} {v : Int} (hs : s < 2 ^ 64) : impl_set_has (s : Int) v = some (inB v && s.testBit v.toNat) := by
  rw [setHas_eq hs]
  rfl
theorem and_zero {a s : Nat} : (((a &&& s : Nat) : Int) == 0) = true ↔ ∀ u, ¬ (a.testBit u = true ∧ s.testBit u = true) := by
  rw [beq_iff_eq]
  constructor
  · intro h u hu
    have h0 : a &&& s = 0 := by omega
    have := congrArg (fun z => z.testBit u) h0
    simp [Nat.testBit_and, hu.1, hu.2] at this
  · intro h
    have : a &&& s = 0 := Nat.eq_of_testBit_eq (fun u => by
      rw [Nat.testBit_and, Nat.zero_testBit]
      cases h1 : a.testBit u <;> cases h2 : s.testBit u <;> simp
      exact h u ⟨h1, h2⟩)
    rw [this]
    rfl
theorem dels_out (l : List Int) (s : Nat) : (((setN l &&& s : Nat) : Int) == 0) = l.all (outB s) := by
  rw [Bool.eq_iff_iff, and_zero, List.all_eq_true]
  constructor
  · intro h x hx
    unfold outB
    cases hi : inB x with
    | false => rfl
    | true =>
      cases hb : s.testBit x.toNat with
      | false => rfl
      | true =>
        refine absurd ⟨?_, hb⟩ (h x.toNat)
        rw [setN_test, List.any_eq_true]
        have := inB_lt hi
        exact ⟨x, hx, by rw [hi]; simp; omega⟩
  · rintro h u ⟨h1, h2⟩
    rw [setN_test, List.any_eq_true] at h1
    obtain ⟨x, hx, h3⟩ := h1
    simp only [Bool.and_eq_true, beq_iff_eq] at h3
    have := h x hx
    unfold outB at this
    rw [h3.1, h3.2] at this
    simp [h2] at this
theorem isLive_eq {b : T_impl_Body} {s : Nat} (hs : s < 2 ^ 64) (hl : b.Dels.length ≤ 1000000000) : impl_Body_isLive b (s : Int) = some (liveN s b) := by
  unfold impl_Body_isLive liveN
  rw [has_eq hs, Option.bind_some]
  cases q : (inB b.Ins && s.testBit b.Ins.toNat) with
  | false => rfl
  | true =>
    rw [ifT rfl, setOf_eq hl, Option.bind_some, and_u64 (setN_lt _) hs, dels_out]
    rfl
/-- A list of truths and a number tell the same set. -/
def agree (t : List Bool) (s : Nat) : Prop := t.length ≤ 64 ∧ ∀ u, t.getD u false = s.testBit u
theorem agree_at {t : List Bool} {s : Nat} (h : agree t s) (v : Int) : (decide (0 ≤ v) && decide (v ≤ (t.length : Int) - 1) && t.getD v.toNat false) = (inB v && s.testBit v.toNat) := by
  rw [h.2]
  have hl := h.1
  unfold inB
  by_cases q0 : 0 ≤ v
  · by_cases q1 : v ≤ (t.length : Int) - 1
    · have : v ≤ 63 := by omega
      simp [q0, q1, this]
    · have hb : s.testBit v.toNat = false := by
        rw [← h.2, List.getD_eq_getElem?_getD, List.getElem?_eq_none (by omega)]
        rfl
      simp [hb]
  · simp [q0]
theorem l06Live_eq {b : T_impl_Body} {t : List Bool} {s : Nat} (ha : agree t s) (hl : b.Dels.length ≤ 1000000000) : spec_l06Live b t = some (liveN s b) := by
  have hat := agree_at ha
  have ht := ha.1
  have get : ∀ {v : Int}, 0 ≤ v → v ≤ (t.length : Int) - 1 → geti t v = some (t.getD v.toNat false) := fun {v} h0 h1 => by
    rw [geti_in h0 (by omega), List.getD_eq_getElem?_getD, List.getElem?_eq_getElem (by omega)]
    rfl
  unfold spec_l06Live liveN
  rw [wk64 (by omega) (by omega), l01In_eq, Option.bind_some, ← hat b.Ins]
  cases q0 : (decide (0 ≤ b.Ins) && decide (b.Ins ≤ (t.length : Int) - 1)) with
  | false => rfl
  | true =>
    have q0' := q0
    simp only [Bool.and_eq_true, decide_eq_true_eq] at q0'
    rw [ifF (b := !true) rfl, get q0'.1 q0'.2, Option.bind_some]
    simp only [Option.bind_some]
    cases q1 : t.getD b.Ins.toNat false with
    | false => rfl
    | true =>
      rw [ifF (b := !true) rfl]
      have := loopAllL (body := fun s' => spec_l06Live_l1 b t s') (good := .inr ()) (bad := .inl false) b.Dels (outB s) (fun i x hi hlt => by
        unfold spec_l06Live_l1
        rw [ifT (by simpa using hlt), geti_nat, hi, Option.bind_some, wk64 (by omega) (by omega), l01In_eq, Option.bind_some, wkS i (by omega)]
        unfold outB
        rw [← hat x]
        cases q2 : (decide (0 ≤ x) && decide (x ≤ (t.length : Int) - 1)) with
        | false => rfl
        | true =>
          have q2' := q2
          simp only [Bool.and_eq_true, decide_eq_true_eq] at q2'
          rw [ifT rfl, get q2'.1 q2'.2]
          simp only [Option.bind_some]
          cases t.getD x.toNat false <;> rfl) (by
        unfold spec_l06Live_l1
        rw [ifF (by simp)])
      rw [this, Option.bind_some]
      cases b.Dels.all (outB s) <;> rfl
theorem idxs_congr {α : Type} {p q : α → Bool} : ∀ (l : List α) (i : Nat), (∀ x ∈ l, p x = q x) → idxs p l i = idxs q l i
  | [], _, _ => rfl
  | x :: l, i, h => by
    simp only [idxs]
    rw [h x (by simp), idxs_congr l (i + 1) (fun y hy => h y (by simp [hy]))]
/-- All Dels are short enough. -/
def delsOk (w : T_impl_Weave) : Prop := w.Bodies.length ≤ 1000000000 ∧ ∀ b ∈ w.Bodies, b.Dels.length ≤ 1000000000
def places (s : Nat) (w : T_impl_Weave) : List Nat := idxs (liveN s) w.Bodies 0
theorem liveIn_eq {w : T_impl_Weave} {s : Nat} (hs : s < 2 ^ 64) (hw : delsOk w) : impl_Weave_liveIn w (s : Int) = some (ints (places s w)) := by
  have hwl := hw.1
  unfold impl_Weave_liveIn places
  have := loopE (body := fun (s' : Int × List Int) => impl_Weave_liveIn_l1 w s s'.1 s'.2) (fun i b => ((i : Int), b)) w.Bodies (fun i (b : List Int) x => (.inl (if liveN s x = true then b ++ [(i : Int)] else b) : List Int ⊕ List Int)) id (fun i b => b.length ≤ i) (fun i x b hi hlt hI => by
    left
    refine ⟨_, rfl, ?_, ?_⟩
    · show impl_Weave_liveIn_l1 w s i b = _
      unfold impl_Weave_liveIn_l1
      rw [ifT (by simpa using hlt), geti_nat, hi, Option.bind_some]
      show (impl_Body_isLive x s).bind _ = _
      rw [isLive_eq hs (hw.2 x (List.mem_of_getElem? hi)), Option.bind_some, wkS i (by omega)]
      cases liveN s x with
      | true => rw [ifT rfl, appn_in (by simp; omega), Option.bind_some]; rfl
      | false => rfl
    · split <;> (try simp only [List.length_append, List.length_singleton]) <;> omega) (fun b hI => by
    show impl_Weave_liveIn_l1 w s w.Bodies.length b = _
    unfold impl_Weave_liveIn_l1
    rw [ifF (by simp)]
    rfl) (b0 := []) (by simp)
  have e0 : ((0 : Nat) : Int) = 0 := rfl
  rw [e0] at this
  rw [this, idxs_go, Option.bind_some, List.nil_append]
  rfl
theorem l06Places_eq {w : T_impl_Weave} {t : List Bool} {s : Nat} (ha : agree t s) (hw : delsOk w) : spec_l06Places w t = some (ints (places s w)) := by
  have hwl := hw.1
  unfold spec_l06Places places
  have := loopE (body := fun (s' : Int × List Int) => spec_l06Places_l1 w t s'.1 s'.2) (fun i b => ((i : Int), b)) w.Bodies (fun i (b : List Int) x => (.inl (if liveN s x = true then b ++ [(i : Int)] else b) : List Int ⊕ List Int)) id (fun i b => b.length ≤ i) (fun i x b hi hlt hI => by
    left
    refine ⟨_, rfl, ?_, ?_⟩
    · show spec_l06Places_l1 w t i b = _
      unfold spec_l06Places_l1
      rw [ifT (by simpa using hlt), geti_nat, hi, Option.bind_some]
      show (spec_l06Live x t).bind _ = _
      rw [l06Live_eq ha (hw.2 x (List.mem_of_getElem? hi)), Option.bind_some, wkS i (by omega)]
      cases liveN s x with
      | true => rw [ifT rfl, appn_in (by simp; omega), Option.bind_some]; rfl
      | false => rfl
    · split <;> (try simp only [List.length_append, List.length_singleton]) <;> omega) (fun b hI => by
    show spec_l06Places_l1 w t w.Bodies.length b = _
    unfold spec_l06Places_l1
    rw [ifF (by simp)]
    rfl) (b0 := []) (by simp)
  have e0 : ((0 : Nat) : Int) = 0 := rfl
  rw [e0] at this
  rw [this, idxs_go, Option.bind_some, List.nil_append]
  rfl
def linesOf (w : T_impl_Weave) (ps : List Nat) : List ByteArray := ps.map fun i => (w.Bodies[i]?.map (·.Line)).getD (ByteArray.mk #[])
theorem lines_go (w : T_impl_Weave) : ∀ (ps : List Int) (i : Nat) (out : List ByteArray), goE (ρ := List ByteArray) (fun _ (b : List ByteArray) (x : Int) => .inl (b ++ [(w.Bodies[x.toNat]?.map (·.Line)).getD (ByteArray.mk #[])])) id ps i out = out ++ ps.map (fun x => (w.Bodies[x.toNat]?.map (·.Line)).getD (ByteArray.mk #[]))
  | [], _, out => by simp [goE]
  | x :: l, i, out => by
    simp only [goE]
    rw [lines_go w l (i + 1)]
    simp
theorem linesAt_eq {w : T_impl_Weave} {ps : List Nat} (hp : ∀ i ∈ ps, i < w.Bodies.length) (hl : ps.length ≤ 1000000000) : impl_Weave_linesAt w (ints ps) = some (linesOf w ps) ∧ spec_l06Lines w (ints ps) = some (linesOf w ps) := by
  have hil := ints_len ps
  have hmem : ∀ {i : Nat} {x : Int}, (ints ps)[i]? = some x → 0 ≤ x ∧ x < w.Bodies.length ∧ ∃ b, w.Bodies[x.toNat]? = some b := fun {i x} h => by
    obtain ⟨n, hn, rfl⟩ := List.mem_map.1 (List.mem_of_getElem? h)
    have := hp n hn
    exact ⟨by omega, by omega, w.Bodies[n], by simp [this]⟩
  have e0 : ((0 : Nat) : Int) = 0 := rfl
  have emap : (ints ps).map (fun x => (w.Bodies[x.toNat]?.map (·.Line)).getD (ByteArray.mk #[])) = linesOf w ps := by
    unfold ints linesOf
    rw [List.map_map]
    rfl
  constructor
  · unfold impl_Weave_linesAt
    have := loopE (body := fun (s' : Int × List ByteArray) => impl_Weave_linesAt_l1 w (ints ps) s'.1 s'.2) (fun i b => ((i : Int), b)) (ints ps) (fun _ (b : List ByteArray) (x : Int) => (.inl (b ++ [(w.Bodies[x.toNat]?.map (·.Line)).getD (ByteArray.mk #[])]) : List ByteArray ⊕ List ByteArray)) id (fun i b => b.length ≤ i) (fun i x b hi hlt hI => by
      left
      obtain ⟨h1, h2, bd, h3⟩ := hmem hi
      refine ⟨_, rfl, ?_, by simp; omega⟩
      show impl_Weave_linesAt_l1 w (ints ps) i b = _
      unfold impl_Weave_linesAt_l1
      have hg : geti w.Bodies x = some bd := by
        rw [show x = ((x.toNat : Nat) : Int) by omega, geti_nat]
        simpa using h3
      rw [ifT (by simpa using hlt), geti_nat, hi, Option.bind_some, hg, Option.bind_some, appn_in (by simp; omega), Option.bind_some, wkS i (by omega), h3]
      rfl) (fun b hI => by
      show impl_Weave_linesAt_l1 w (ints ps) (ints ps).length b = _
      unfold impl_Weave_linesAt_l1
      rw [ifF (by simp)]
      rfl) (b0 := []) (by simp)
    rw [e0] at this
    rw [this, lines_go, Option.bind_some, List.nil_append, emap]
    rfl
  · unfold spec_l06Lines
    have := loopE (body := fun (s' : Int × List ByteArray) => spec_l06Lines_l1 w (ints ps) s'.1 s'.2) (fun i b => ((i : Int), b)) (ints ps) (fun _ (b : List ByteArray) (x : Int) => (.inl (b ++ [(w.Bodies[x.toNat]?.map (·.Line)).getD (ByteArray.mk #[])]) : List ByteArray ⊕ List ByteArray)) id (fun i b => b.length ≤ i) (fun i x b hi hlt hI => by
      left
      obtain ⟨h1, h2, bd, h3⟩ := hmem hi
      refine ⟨_, rfl, ?_, by simp; omega⟩
      show spec_l06Lines_l1 w (ints ps) i b = _
      unfold spec_l06Lines_l1
      have hg : geti w.Bodies x = some bd := by
        rw [show x = ((x.toNat : Nat) : Int) by omega, geti_nat]
        simpa using h3
      rw [ifT (by simpa using hlt), geti_nat, hi, Option.bind_some, hg, Option.bind_some, appn_in (by simp; omega), Option.bind_some, wkS i (by omega), h3]
      rfl) (fun b hI => by
      show spec_l06Lines_l1 w (ints ps) (ints ps).length b = _
      unfold spec_l06Lines_l1
      rw [ifF (by simp)]
      rfl) (b0 := []) (by simp)
    rw [e0] at this
    rw [this, lines_go, Option.bind_some, List.nil_append, emap]
    rfl
end Go.TV.F
/- Plain Lean: WeaveOk, in closed form. -/
namespace Go.TV.F
open Go.TV
theorem agree_set {g : List (List Int)} (hg : gOk g = true) {l : List Int} (hl : ∀ x ∈ l, 0 ≤ x ∧ x < (g.length : Int)) : agree (setL g l) (orL (closN g g.length) l) := by
  refine ⟨by rw [setL_len]; have := gOk_len hg; omega, fun u => ?_⟩
  rw [Bool.eq_iff_iff, setL_get hg, orL_test, List.any_eq_true]
  constructor
  · rintro ⟨x, h1, h2, h3, h4⟩
    exact ⟨x, h1, h4⟩
  · rintro ⟨x, h1, h4⟩
    exact ⟨x, h1, (hl x h1).1, (hl x h1).2, h4⟩
theorem orL_one (c : List Nat) (v : Int) : orL c [v] = c.getD v.toNat 0 := by
  unfold orL
  simp
theorem agree_one {g : List (List Int)} (hg : gOk g = true) {v : Int} (h0 : 0 ≤ v) (h1 : v < (g.length : Int)) : agree (setL g [v]) (clo g v.toNat) := by
  have := agree_set hg (l := [v]) (fun x hx => by
    obtain rfl := List.mem_singleton.1 hx
    exact ⟨h0, h1⟩)
  rw [orL_one] at this
  exact this
/-- What the parents of d see. -/
def seenN (g : List (List Int)) (d : Int) : Nat := orL (closN g g.length) (g.getD d.toNat [])
def bodB (g : List (List Int)) (born : List Int) (b : T_impl_Body) : Bool :=
  lineB b.Line && (decide (0 ≤ b.Ins) && decide (b.Ins ≤ (g.length : Int) - 1)) && (b.Ord == born.getD b.Ins.toNat 0) && rise b.Dels g.length && b.Dels.all fun d => liveN (seenN g d) b
def bstep (g : List (List Int)) (i : Nat) (born : List Int) (b : T_impl_Body) : List Int ⊕ (Bool ⊕ List Int) :=
  if bodB g born b = true then .inl (born.set b.Ins.toNat (born.getD b.Ins.toNat 0 + 1)) else .inr (.inl false)
def bornOf (w : T_impl_Weave) : Bool ⊕ List Int := goE (bstep w.Parents) .inr w.Bodies 0 (List.replicate w.Parents.length 0)
def finB (w : T_impl_Weave) (born : List Int) : Bool := (List.range w.Parents.length).all fun v => decide (born.getD v 0 ≤ 80) && decide ((places (clo w.Parents v) w).length ≤ 80)
def wOk (w : T_impl_Weave) : Bool := gOk w.Parents && decide (w.Bodies.length ≤ 300) && match bornOf w with
  | .inl b => b
  | .inr born => finB w born
theorem us_get {c : List Nat} {v : Int} (h0 : 0 ≤ v) (h1 : v < (c.length : Int)) : geti (us c) v = some ((c.getD v.toNat 0 : Nat) : Int) := by
  have hl : (us c).length = c.length := by simp [us]
  rw [geti_in h0 (by omega)]
  congr 1
  simp only [us, List.getElem_map]
  rw [List.getD_eq_getElem?_getD, List.getElem?_eq_getElem (by omega)]
  rfl
theorem goE_inl {α β ρ : Type} {step : Nat → β → α → β ⊕ ρ} {fin : β → ρ} (J : ρ → Prop) (I : Nat → β → Prop) : ∀ (l : List α) (i : Nat) (b : β), I i b → (∀ i x b, I i b → match step i b x with | .inl b' => I (i + 1) b' | .inr r => J r) → (∀ b i, I i b → J (fin b)) → J (goE step fin l i b)
  | [], i, b, h, _, hf => hf b i h
  | x :: l, i, b, h, hs, hf => by
    have := hs i x b h
    simp only [goE]
    split
    · rename_i b' hb
      rw [hb] at this
      exact goE_inl J I l (i + 1) b' this hs hf
    · rename_i r hr
      rw [hr] at this
      exact this
def bornI (n : Nat) (i : Nat) (born : List Int) : Prop := born.length = n ∧ ∀ v, 0 ≤ born.getD v 0 ∧ born.getD v 0 ≤ i
theorem bornI_0 (n : Nat) : bornI n 0 (List.replicate n 0) := ⟨by simp, fun v => by
  rw [List.getD_eq_getElem?_getD, List.getElem?_replicate]
  split <;> simp⟩
theorem getD_setK {α : Type} (l : List α) (v u : Nat) (a d : α) : (l.set v a).getD u d = if v = u ∧ u < l.length then a else l.getD u d := by
  simp only [List.getD_eq_getElem?_getD, List.getElem?_set]
  by_cases h : v = u
  · subst h
    by_cases h2 : v < l.length
    · simp [h2]
    · simp [h2]
  · simp [h]
theorem bornI_set {n i : Nat} {born : List Int} (h : bornI n i born) {v : Nat} : bornI n (i + 1) (born.set v (born.getD v 0 + 1)) := by
  refine ⟨by rw [List.length_set]; exact h.1, fun u => ?_⟩
  have hu := h.2 u
  have hv := h.2 v
  rw [getD_setK]
  split <;> omega
theorem born_get {n i : Nat} {born : List Int} (h : bornI n i born) {v : Int} (h0 : 0 ≤ v) (h1 : v ≤ (n : Int) - 1) : geti born v = some (born.getD v.toNat 0) := by
  have := h.1
  rw [geti_in h0 (by omega), List.getD_eq_getElem?_getD, List.getElem?_eq_getElem (by omega)]
  rfl
theorem bornOf_I {w : T_impl_Weave} (hl : w.Bodies.length ≤ 300) : match bornOf w with | .inl b => b = false | .inr born => born.length = w.Parents.length ∧ ∀ v, 0 ≤ born.getD v 0 := by
  unfold bornOf
  refine goE_inl (J := fun (r : Bool ⊕ List Int) => match r with | .inl b => b = false | .inr born => born.length = w.Parents.length ∧ ∀ v, 0 ≤ born.getD v 0) (bornI w.Parents.length) w.Bodies 0 _ (bornI_0 _) (fun i x b hI => ?_) (fun b i hI => ⟨hI.1, fun v => (hI.2 v).1⟩)
  unfold bstep
  by_cases q : bodB w.Parents b x = true
  · rw [if_pos q]
    exact bornI_set hI
  · rw [if_neg q]
/-- The bodies, one behind the other: the program. -/
theorem bodiesI {w : T_impl_Weave} (hg : gOk w.Parents = true) (hw : delsOk w) (hb : w.Bodies.length ≤ 300) :
    loopM (fun (s' : Int × (List Int)) => impl_bodiesOk_l2 w (us (closN w.Parents w.Parents.length)) s'.1 s'.2) (0, List.replicate w.Parents.length 0) = some (bornOf w) := by
  have hgl := gOk_len hg
  have hcl : (closN w.Parents w.Parents.length).length = w.Parents.length := closN_len _ _
  have hul : (us (closN w.Parents w.Parents.length)).length = w.Parents.length := by rw [show (us (closN w.Parents w.Parents.length)).length = (closN w.Parents w.Parents.length).length by simp [us], hcl]
  have hlt := closN_lt hgl w.Parents.length (Nat.le_refl _)
  have := loopE (body := fun (s' : Int × (List Int)) => impl_bodiesOk_l2 w (us (closN w.Parents w.Parents.length)) s'.1 s'.2) (fun i b => ((i : Int), b)) w.Bodies (bstep w.Parents) .inr (bornI w.Parents.length) (fun i x born hi hil hI => by
    have hx := List.mem_of_getElem? hi
    have hdl := hw.2 x hx
    have step : impl_bodiesOk_l2 w (us (closN w.Parents w.Parents.length)) i born = some (if bodB w.Parents born x = true then .inl (((i + 1 : Nat) : Int), born.set x.Ins.toNat (born.getD x.Ins.toNat 0 + 1)) else .inr (.inl false)) := by
      unfold impl_bodiesOk_l2 bodB
      rw [ifT (by simpa using hil), geti_nat, hi, Option.bind_some, lineI_eq, Option.bind_some, hul, isPlace_eq (by omega) (by omega), ascends_eq hdl (by omega) (by omega)]
      cases lineB x.Line with
      | false => rfl
      | true =>
        have e1 : (decide (0 ≤ x.Ins) && decide (x.Ins < (w.Parents.length : Int))) = (decide (0 ≤ x.Ins) && decide (x.Ins ≤ (w.Parents.length : Int) - 1)) := by
          rw [Bool.eq_iff_iff]
          simp
          omega
        simp only [Option.bind_some, Bool.not_true, Bool.false_eq_true, if_false, e1]
        cases q1 : (decide (0 ≤ x.Ins) && decide (x.Ins ≤ (w.Parents.length : Int) - 1)) with
        | false => rfl
        | true =>
          simp only [Bool.and_eq_true, decide_eq_true_eq] at q1
          simp only [Option.bind_some, Bool.not_true, Bool.false_eq_true, if_false, born_get hI q1.1 q1.2]
          cases q2 : (x.Ord == born.getD x.Ins.toNat 0) with
          | false =>
            have : (x.Ord != born.getD x.Ins.toNat 0) = true := by simp only [bne, q2]; rfl
            rw [this]
            rfl
          | true =>
            have : (x.Ord != born.getD x.Ins.toNat 0) = false := by simp only [bne, q2]; rfl
            rw [this]
            simp only [Option.bind_some, Bool.false_eq_true, if_false]
            cases q3 : rise x.Dels (w.Parents.length : Int) with
            | false => rfl
            | true =>
              simp only [Option.bind_some, Bool.not_true, Bool.false_eq_true, if_false]
              have hloop := loopAllL (body := fun s' => impl_bodiesOk_l3 w (us (closN w.Parents w.Parents.length)) x s') (good := .inr ()) (bad := .inl (.inr (.inl false))) x.Dels (fun d => liveN (seenN w.Parents d) x) (fun k d hk hkl => by
                have hdm := rise_mem q3 (List.mem_of_getElem? hk)
                have hdn : d.toNat < w.Parents.length := by omega
                have hgd : geti w.Parents d = some (w.Parents[d.toNat]'hdn) := geti_in hdm.1 (by omega)
                have hgD : w.Parents.getD d.toNat [] = w.Parents[d.toNat]'hdn := by rw [List.getD_eq_getElem?_getD, List.getElem?_eq_getElem hdn]; rfl
                unfold impl_bodiesOk_l3
                rw [ifT (by simpa using hkl), geti_nat, hk, Option.bind_some, hgd, Option.bind_some, unionOf_eq hlt (fun y hy => by
                  have := gOk_mem hg hdn hy
                  rw [hcl]
                  omega) (by have := (gOk_at hg hdn).1; omega), Option.bind_some]
                show (impl_Body_isLive x _).bind _ = _
                rw [isLive_eq (orL_lt hlt _) hdl, Option.bind_some, wkS k (by omega)]
                unfold seenN
                rw [hgD]
                cases liveN (orL (closN w.Parents w.Parents.length) w.Parents[d.toNat]) x <;> rfl) (by
                unfold impl_bodiesOk_l3
                rw [ifF (by simp)])
              rw [hloop, Option.bind_some]
              have hbv := hI.2 x.Ins.toNat
              rw [wk64 (x := born.getD x.Ins.toNat 0 + 1) (by omega) (by omega)]
              simp only [Bool.and_true, Bool.true_and]
              cases x.Dels.all (fun d => liveN (seenN w.Parents d) x) with
              | false => rfl
              | true =>
                simp only [if_true]
                unfold impl_bodiesOk_j3
                rw [wkS i (by omega)]
    unfold bstep
    by_cases q : bodB w.Parents born x = true
    · left
      refine ⟨_, if_pos q, ?_, bornI_set hI⟩
      show impl_bodiesOk_l2 w _ i born = _
      rw [step, if_pos q]
    · right
      refine ⟨_, if_neg q, ?_⟩
      show impl_bodiesOk_l2 w _ i born = _
      rw [step, if_neg q]) (fun b hI => by
    show impl_bodiesOk_l2 w _ w.Bodies.length b = _
    unfold impl_bodiesOk_l2
    rw [ifF (by simp)]) (bornI_0 _)
  exact this
/-- The bodies, one behind the other: the reference. -/
theorem bodiesS {w : T_impl_Weave} (hg : gOk w.Parents = true) (hw : delsOk w) (hb : w.Bodies.length ≤ 300) (hx : ∀ b ∈ w.Bodies, b.Line.size ≤ 1000000000) :
    loopM (fun (s' : Int × (List Int)) => spec_WeaveOk_l2 w (w.Parents.map (setL w.Parents)) s'.1 s'.2) (0, List.replicate w.Parents.length 0) = some (bornOf w) := by
  have hgl := gOk_len hg
  have := loopE (body := fun (s' : Int × (List Int)) => spec_WeaveOk_l2 w (w.Parents.map (setL w.Parents)) s'.1 s'.2) (fun i b => ((i : Int), b)) w.Bodies (bstep w.Parents) .inr (bornI w.Parents.length) (fun i x born hi hil hI => by
    have hxm := List.mem_of_getElem? hi
    have hdl := hw.2 x hxm
    have step : spec_WeaveOk_l2 w (w.Parents.map (setL w.Parents)) i born = some (if bodB w.Parents born x = true then .inl (((i + 1 : Nat) : Int), born.set x.Ins.toNat (born.getD x.Ins.toNat 0 + 1)) else .inr (.inl false)) := by
      unfold spec_WeaveOk_l2 bodB
      rw [ifT (by simpa using hil), geti_nat, hi, Option.bind_some, lineS_eq (hx x hxm), Option.bind_some, wk64 (x := (w.Parents.length : Int) - 1) (by omega) (by omega), l01In_eq, l05Rise_eq hdl (by omega) (by omega)]
      cases lineB x.Line with
      | false => rfl
      | true =>
        simp only [Option.bind_some, Bool.not_true, Bool.false_eq_true, if_false]
        cases q1 : (decide (0 ≤ x.Ins) && decide (x.Ins ≤ (w.Parents.length : Int) - 1)) with
        | false => rfl
        | true =>
          simp only [Bool.and_eq_true, decide_eq_true_eq] at q1
          simp only [Option.bind_some, Bool.not_true, Bool.false_eq_true, if_false, born_get hI q1.1 q1.2]
          cases q2 : (x.Ord == born.getD x.Ins.toNat 0) with
          | false =>
            have : (x.Ord != born.getD x.Ins.toNat 0) = true := by simp only [bne, q2]; rfl
            rw [this]
            rfl
          | true =>
            have : (x.Ord != born.getD x.Ins.toNat 0) = false := by simp only [bne, q2]; rfl
            rw [this]
            simp only [Option.bind_some, Bool.false_eq_true, if_false]
            cases q3 : rise x.Dels (w.Parents.length : Int) with
            | false => rfl
            | true =>
              simp only [Option.bind_some, Bool.not_true, Bool.false_eq_true, if_false]
              have hloop := loopAllL (body := fun s' => spec_WeaveOk_l3 (w.Parents.map (setL w.Parents)) x s') (good := .inr ()) (bad := .inl (.inr (.inl false))) x.Dels (fun d => liveN (seenN w.Parents d) x) (fun k d hk hkl => by
                have hdm := rise_mem q3 (List.mem_of_getElem? hk)
                have hdn : d.toNat < w.Parents.length := by omega
                have hgd : geti (w.Parents.map (setL w.Parents)) d = some (setL w.Parents (w.Parents[d.toNat]'hdn)) := by
                  rw [geti_in hdm.1 (by rw [List.length_map]; omega), List.getElem_map]
                have hgD : w.Parents.getD d.toNat [] = w.Parents[d.toNat]'hdn := by rw [List.getD_eq_getElem?_getD, List.getElem?_eq_getElem hdn]; rfl
                unfold spec_WeaveOk_l3
                rw [ifT (by simpa using hkl), geti_nat, hk, Option.bind_some, hgd, Option.bind_some]
                show (spec_l06Live x _).bind _ = _
                rw [l06Live_eq (agree_set hg (fun y hy => by
                  have := gOk_mem hg hdn hy
                  omega)) hdl, Option.bind_some, wkS k (by omega)]
                unfold seenN
                rw [hgD]
                cases liveN (orL (closN w.Parents w.Parents.length) w.Parents[d.toNat]) x <;> rfl) (by
                unfold spec_WeaveOk_l3
                rw [ifF (by simp)])
              rw [hloop, Option.bind_some]
              have hbv := hI.2 x.Ins.toNat
              rw [wk64 (x := born.getD x.Ins.toNat 0 + 1) (by omega) (by omega)]
              simp only [Bool.and_true, Bool.true_and]
              cases x.Dels.all (fun d => liveN (seenN w.Parents d) x) with
              | false => rfl
              | true =>
                simp only [if_true]
                unfold spec_WeaveOk_j4
                rw [wkS i (by omega)]
    unfold bstep
    by_cases q : bodB w.Parents born x = true
    · left
      refine ⟨_, if_pos q, ?_, bornI_set hI⟩
      show spec_WeaveOk_l2 w _ i born = _
      rw [step, if_pos q]
    · right
      refine ⟨_, if_neg q, ?_⟩
      show spec_WeaveOk_l2 w _ i born = _
      rw [step, if_neg q]) (fun b hI => by
    show spec_WeaveOk_l2 w _ w.Bodies.length b = _
    unfold spec_WeaveOk_l2
    rw [ifF (by simp)]) (bornI_0 _)
  exact this
theorem places_len (s : Nat) (w : T_impl_Weave) : (places s w).length ≤ w.Bodies.length := idxs_len _ _ _
theorem range_all (n : Nat) (p : Nat → Bool) : (List.range n).all p = ((List.range n).map fun i => p i).all id := by simp [List.all_map]
theorem bodiesOkI {w : T_impl_Weave} (hg : gOk w.Parents = true) (hw : delsOk w) (hb : w.Bodies.length ≤ 300) : impl_bodiesOk w (us (closN w.Parents w.Parents.length)) = some (match bornOf w with | .inl b => b | .inr born => finB w born) := by
  have hgl := gOk_len hg
  have hcl : (closN w.Parents w.Parents.length).length = w.Parents.length := closN_len _ _
  have hul : (us (closN w.Parents w.Parents.length)).length = w.Parents.length := by rw [show (us (closN w.Parents w.Parents.length)).length = (closN w.Parents w.Parents.length).length by simp [us], hcl]
  unfold impl_bodiesOk
  rw [hul, mkl_in (by omega) (by omega), Option.bind_some, Int.toNat_natCast, bodiesI hg hw hb, Option.bind_some]
  have hbo := bornOf_I (w := w) hb
  cases h : bornOf w with
  | inl b => rfl
  | inr born =>
    rw [h] at hbo
    show impl_bodiesOk_j1 w _ born = some (finB w born)
    unfold impl_bodiesOk_j1 finB
    have hloop := loopAllL (body := fun s' => impl_bodiesOk_l1 w (us (closN w.Parents w.Parents.length)) born s') (good := .inr ()) (bad := .inl false) (List.range w.Parents.length) (fun v => decide (born.getD v 0 ≤ 80) && decide ((places (clo w.Parents v) w).length ≤ 80)) (fun i v hv hvl => by
      rw [List.length_range] at hvl
      rw [List.getElem?_range hvl] at hv
      obtain rfl := Option.some.inj hv
      unfold impl_bodiesOk_l1
      have hc : geti (us (closN w.Parents w.Parents.length)) (i : Int) = some ((clo w.Parents i : Nat) : Int) := by
        rw [us_get (by omega) (by omega), Int.toNat_natCast]
        rfl
      have hbg : geti born (i : Int) = some (born.getD i 0) := by
        rw [geti_nat, List.getD_eq_getElem?_getD, List.getElem?_eq_getElem (by omega)]
        rfl
      rw [hul, ifT (by simpa using hvl), hc, Option.bind_some, hbg, Option.bind_some]
      have hlv : impl_Weave_liveIn (T_impl_Weave.mk w.Parents w.Bodies) ((clo w.Parents i : Nat) : Int) = some (ints (places (clo w.Parents i) w)) := liveIn_eq (clo_lt hg i) hw
      rw [hlv, Option.bind_some, ints_len, wkS i (by omega)]
      by_cases q1 : born.getD i 0 ≤ 80
      · rw [ifF (b := decide (born.getD i 0 > 80)) (decide_eq_false (by omega)), decide_eq_true q1, Option.bind_some, Bool.true_and]
        by_cases q2 : (places (clo w.Parents i) w).length ≤ 80
        · rw [ifF (by simp; omega), decide_eq_true q2]
          rfl
        · rw [ifT (by simp; omega), decide_eq_false q2]
          rfl
      · rw [ifT (b := decide (born.getD i 0 > 80)) (decide_eq_true (by omega)), decide_eq_false q1, Option.bind_some]
        rfl) (by
      unfold impl_bodiesOk_l1
      rw [ifF (by simp [hul])])
    rw [hloop, Option.bind_some]
    cases (List.range w.Parents.length).all (fun v => decide (born.getD v 0 ≤ 80) && decide ((places (clo w.Parents v) w).length ≤ 80)) <;> rfl
theorem weaveOkI {w : T_impl_Weave} (hl : w.Parents.length ≤ 10000000) (hw : delsOk w) : impl_WeaveOk w = some (wOk w) := by
  have hwl := hw.1
  unfold impl_WeaveOk wOk
  rw [graphOkI_eq hl, Option.bind_some]
  by_cases q1 : w.Bodies.length ≤ 300
  · rw [ifT (b := decide ((w.Bodies.length : Int) ≤ 300)) (by simp; omega), decide_eq_true q1]
    cases q2 : gOk w.Parents with
    | false => rfl
    | true =>
      simp only [Option.bind_some, if_true]
      rw [closures_eq q2, Option.bind_some]
      show (impl_bodiesOk w _).bind _ >>= _ = _
      rw [bodiesOkI q2 hw q1]
      rfl
  · rw [ifF (b := decide ((w.Bodies.length : Int) ≤ 300)) (by simp; omega), decide_eq_false q1]
    cases gOk w.Parents <;> rfl
theorem proper_loop {w : T_impl_Weave} (hg : gOk w.Parents = true) : loopM (fun (s' : Int × (List (List Bool))) => spec_WeaveOk_l4 w s'.1 s'.2) (0, []) = some (w.Parents.map (setL w.Parents)) := by
  have hgl := gOk_len hg
  have := loopE (body := fun (s' : Int × (List (List Bool))) => spec_WeaveOk_l4 w s'.1 s'.2) (fun i b => ((i : Int), b)) w.Parents (fun _ (b : List (List Bool)) x => (.inl (b ++ [setL w.Parents x]) : List (List Bool) ⊕ List (List Bool))) id (fun i b => b.length = i) (fun i x b hi hil hI => by
    left
    refine ⟨_, rfl, ?_, by simp [hI]⟩
    show spec_WeaveOk_l4 w i b = _
    unfold spec_WeaveOk_l4
    have hxl : x.length ≤ 4 := by
      have := (gOk_at hg hil).1
      rw [List.getElem?_eq_getElem hil] at hi
      obtain rfl := Option.some.inj hi
      exact this
    rw [ifT (by simpa using hil), geti_nat, hi, Option.bind_some, l05Set_eq hg (by omega), Option.bind_some, appn_in (by simp; omega), Option.bind_some, wkS i (by omega)]) (fun b hI => by
    show spec_WeaveOk_l4 w w.Parents.length b = _
    unfold spec_WeaveOk_l4
    rw [ifF (by simp)]
    rfl) (b0 := []) rfl
  have key : ∀ (l : List (List Int)) (i : Nat) (out : List (List Bool)), goE (ρ := List (List Bool)) (fun _ (b : List (List Bool)) x => .inl (b ++ [setL w.Parents x])) id l i out = out ++ l.map (setL w.Parents) := by
    intro l
    induction l with
    | nil => intro i out; simp [goE]
    | cons x l ih => intro i out; simp only [goE]; rw [ih]; simp
  have e0 : ((0 : Nat) : Int) = 0 := rfl
  rw [e0] at this
  rw [this, key, List.nil_append]
theorem closureS {w : T_impl_Weave} (hg : gOk w.Parents = true) (v : Int) : spec_l06Closure w v = some (setL w.Parents [v]) := by
  unfold spec_l06Closure
  rw [l05Set_eq hg (by simp), Option.bind_some]
theorem weaveOkS {w : T_impl_Weave} (hl : w.Parents.length ≤ 10000000) (hw : delsOk w) (hx : ∀ b ∈ w.Bodies, b.Line.size ≤ 1000000000) : spec_WeaveOk w = some (wOk w) := by
  have hwl := hw.1
  unfold spec_WeaveOk wOk
  rw [graphOkS_eq hl, Option.bind_some]
  cases q2 : gOk w.Parents with
  | false => rfl
  | true =>
    simp only [Bool.not_true, Bool.false_eq_true, if_false, Option.bind_some, Bool.true_and]
    by_cases q1 : w.Bodies.length ≤ 300
    · rw [ifF (b := decide ((w.Bodies.length : Int) > 300)) (by simp; omega), decide_eq_true q1, Bool.true_and]
      have hgl := gOk_len q2
      rw [mkl_in (by omega) (by omega), Option.bind_some, Int.toNat_natCast, proper_loop q2, Option.bind_some]
      unfold spec_WeaveOk_j1
      rw [bodiesS q2 hw q1 hx, Option.bind_some]
      have hbo := bornOf_I (w := w) q1
      cases h : bornOf w with
      | inl b => rfl
      | inr born =>
        rw [h] at hbo
        show spec_WeaveOk_j2 w born = some (finB w born)
        unfold spec_WeaveOk_j2 finB
        have hloop := loopAllL (body := fun s' => spec_WeaveOk_l1 w born s') (good := .inr ()) (bad := .inl false) (List.range w.Parents.length) (fun v => decide (born.getD v 0 ≤ 80) && decide ((places (clo w.Parents v) w).length ≤ 80)) (fun i v hv hvl => by
          rw [List.length_range] at hvl
          rw [List.getElem?_range hvl] at hv
          obtain rfl := Option.some.inj hv
          unfold spec_WeaveOk_l1
          have hbg : geti born (i : Int) = some (born.getD i 0) := by
            rw [geti_nat, List.getD_eq_getElem?_getD, List.getElem?_eq_getElem (by omega)]
            rfl
          rw [ifT (by simpa using hvl), hbg, Option.bind_some]
          have hcl : spec_l06Closure (T_impl_Weave.mk w.Parents w.Bodies) (i : Int) = some (setL w.Parents [(i : Int)]) := closureS (w := w) q2 _
          have hpl : spec_l06Places (T_impl_Weave.mk w.Parents w.Bodies) (setL w.Parents [(i : Int)]) = some (ints (places (clo w.Parents i) w)) := by
            have := agree_one q2 (v := (i : Int)) (by omega) (by omega)
            rw [Int.toNat_natCast] at this
            exact l06Places_eq this hw
          rw [hcl]
          simp only [Option.bind_some]
          rw [hpl]
          simp only [Option.bind_some]
          rw [ints_len, wkS i (by omega)]
          by_cases q1 : born.getD i 0 ≤ 80
          · rw [ifF (b := decide (born.getD i 0 > 80)) (decide_eq_false (by omega)), decide_eq_true q1, Option.bind_some, Bool.true_and]
            by_cases q2 : (places (clo w.Parents i) w).length ≤ 80
            · rw [ifF (by simp; omega), decide_eq_true q2]
              rfl
            · rw [ifT (by simp; omega), decide_eq_false q2]
              rfl
          · rw [ifT (b := decide (born.getD i 0 > 80)) (decide_eq_true (by omega)), decide_eq_false q1, Option.bind_some]
            rfl) (by
          unfold spec_WeaveOk_l1
          rw [ifF (by simp)])
        rw [hloop, Option.bind_some]
        cases (List.range w.Parents.length).all (fun v => decide (born.getD v 0 ≤ 80) && decide ((places (clo w.Parents v) w).length ≤ 80)) <;> rfl
    · rw [ifT (b := decide ((w.Bodies.length : Int) > 300)) (by simp; omega), decide_eq_false q1]
      rfl
end Go.TV.F
/- Plain Lean: Blend, PickOn and UndoOn are the reference's. -/
namespace Go.TV.F
open Go.TV
/-- A weave that is small enough to be looked at. -/
structure WSm (w : T_impl_Weave) : Prop where
  p : w.Parents.length ≤ 10000000
  d : delsOk w
  l : ∀ b ∈ w.Bodies, b.Line.size ≤ 1000000000
def vIn (n : Int) (v : Int) : Bool := decide (0 ≤ v) && decide (v < n)
theorem areVersions_eq {w : T_impl_Weave} {l : List Int} (hl : w.Parents.length ≤ 10000000) (hll : l.length ≤ 1000000000) : impl_Weave_areVersions w l = some (l.all (vIn w.Parents.length)) := by
  unfold impl_Weave_areVersions
  have := loopAllL (body := fun s' => impl_Weave_areVersions_l1 w l s') (good := .inr ()) (bad := .inl false) l (vIn w.Parents.length) (fun i x hi hil => by
    unfold impl_Weave_areVersions_l1
    rw [ifT (by simpa using hil), geti_nat, hi, Option.bind_some, isPlace_eq (by omega) (by omega), Option.bind_some, wkS i (by omega)]
    unfold vIn
    cases (decide (0 ≤ x) && decide (x < (w.Parents.length : Int))) <;> rfl) (by
    unfold impl_Weave_areVersions_l1
    rw [ifF (by simp)])
  rw [this, Option.bind_some]
  cases l.all (vIn w.Parents.length) <;> rfl
theorem places_lt (s : Nat) (w : T_impl_Weave) : ∀ i ∈ places s w, i < w.Bodies.length := fun i hi => by
  obtain ⟨_, x, hx, _⟩ := (idxs_mem _ _ _ _).1 hi
  rw [Nat.sub_zero] at hx
  exact (List.getElem?_eq_some_iff.1 hx).1
theorem rise_in {l : List Int} {n : Int} (h : rise l n = true) : l.all (vIn n) = true := List.all_eq_true.2 (fun x hx => by
  have := rise_mem h hx
  unfold vIn
  simp
  omega)
theorem wOk_g {w : T_impl_Weave} (h : wOk w = true) : gOk w.Parents = true ∧ w.Bodies.length ≤ 300 := by
  unfold wOk at h
  simp only [Bool.and_eq_true, decide_eq_true_eq] at h
  exact h.1
/-- What a list of versions sees. -/
def seenL (w : T_impl_Weave) (l : List Int) : List ByteArray := linesOf w (places (orL (closN w.Parents w.Parents.length) l) w)
theorem seenL_len (w : T_impl_Weave) (l : List Int) : (seenL w l).length ≤ w.Bodies.length := by
  unfold seenL linesOf
  rw [List.length_map]
  exact places_len _ _
theorem seenBy_eq {w : T_impl_Weave} {l : List Int} (hs : WSm w) (hll : l.length ≤ 1000000000) : impl_SeenBy w l = some (if (l.all (vIn w.Parents.length) && wOk w) = true then seenL w l else []) := by
  unfold impl_SeenBy
  have e1 : impl_Weave_areVersions (T_impl_Weave.mk w.Parents w.Bodies) l = _ := areVersions_eq (w := w) hs.p hll
  have e2 : impl_WeaveOk (T_impl_Weave.mk w.Parents w.Bodies) = _ := weaveOkI (w := w) hs.p hs.d
  rw [e1, e2]
  cases q1 : l.all (vIn w.Parents.length) with
  | false => rfl
  | true =>
    cases q2 : wOk w with
    | false => rfl
    | true =>
      obtain ⟨hg, hb⟩ := wOk_g q2
      have hlt := closN_lt (gOk_len hg) w.Parents.length (Nat.le_refl _)
      have hcl : (closN w.Parents w.Parents.length).length = w.Parents.length := closN_len _ _
      simp only [Option.bind_some, Bool.not_true, Bool.false_eq_true, if_false, Bool.and_self, if_true]
      rw [closures_eq hg, Option.bind_some, unionOf_eq hlt (fun x hx => by
        have := List.all_eq_true.1 q1 x hx
        unfold vIn at this
        simp at this
        rw [hcl]
        exact this) hll, Option.bind_some]
      have e3 : impl_Weave_liveIn (T_impl_Weave.mk w.Parents w.Bodies) ((orL (closN w.Parents w.Parents.length) l : Nat) : Int) = _ := liveIn_eq (w := w) (orL_lt hlt l) hs.d
      have hpl := places_len (orL (closN w.Parents w.Parents.length) l) w
      have e4 : impl_Weave_linesAt (T_impl_Weave.mk w.Parents w.Bodies) (ints (places (orL (closN w.Parents w.Parents.length) l) w)) = _ := (linesAt_eq (w := w) (places_lt _ w) (by omega)).1
      rw [e3, Option.bind_some, e4]
      rfl
theorem seenS_eq {w : T_impl_Weave} {l : List Int} (hs : WSm w) (hw : wOk w = true) (hl : l.all (vIn w.Parents.length) = true) (hll : l.length ≤ 1000000000) :
    spec_l06Seen w l = some (ints (places (orL (closN w.Parents w.Parents.length) l) w)) ∧ spec_l06Lines w (ints (places (orL (closN w.Parents w.Parents.length) l) w)) = some (seenL w l) := by
  obtain ⟨hg, hb⟩ := wOk_g hw
  have hpl := places_len (orL (closN w.Parents w.Parents.length) l) w
  refine ⟨?_, (linesAt_eq (w := w) (places_lt _ w) (by omega)).2⟩
  unfold spec_l06Seen
  rw [l05Set_eq hg hll, Option.bind_some]
  have e3 : spec_l06Places (T_impl_Weave.mk w.Parents w.Bodies) (setL w.Parents l) = _ := l06Places_eq (w := w) (agree_set hg (fun x hx => by
    have := List.all_eq_true.1 hl x hx
    unfold vIn at this
    simpa using this)) hs.d
  rw [e3]
  rfl
def blendR (w : T_impl_Weave) (l : List Int) : List ByteArray × Int :=
  if wOk w = true then (if (decide (l.length ≤ 4) && rise l w.Parents.length) = true then (if (seenL w l).length ≤ 80 then (seenL w l, 0) else ([], 3)) else ([], 2)) else ([], 1)
theorem blendI {w : T_impl_Weave} {l : List Int} (hs : WSm w) (hll : l.length ≤ 1000000000) : impl_Blend w l = some (blendR w l) := by
  have hp := hs.p
  unfold impl_Blend blendR
  have e2 : impl_WeaveOk (T_impl_Weave.mk w.Parents w.Bodies) = _ := weaveOkI (w := w) hs.p hs.d
  have e3 : impl_SeenBy (T_impl_Weave.mk w.Parents w.Bodies) l = _ := seenBy_eq (w := w) hs hll
  rw [e2, e3, ascends_eq hll (by omega) (by omega)]
  cases q2 : wOk w with
  | false => rfl
  | true =>
    simp only [Option.bind_some, Bool.not_true, Bool.false_eq_true, if_false, if_true]
    by_cases q3 : l.length ≤ 4
    · rw [ifF (b := decide ((l.length : Int) > 4)) (decide_eq_false (by omega)), decide_eq_true q3]
      cases q4 : rise l (w.Parents.length : Int) with
      | false => rfl
      | true =>
        simp only [Option.bind_some, Bool.not_true, Bool.false_eq_true, if_false, if_true, Bool.and_self, rise_in q4]
        by_cases q5 : (seenL w l).length ≤ 80
        · rw [ifF (decide_eq_false (by omega)), if_pos q5]
        · rw [ifT (decide_eq_true (by omega)), if_neg q5]
    · rw [ifT (b := decide ((l.length : Int) > 4)) (decide_eq_true (by omega)), decide_eq_false q3]
      rfl
theorem l06Parents_eq {w : T_impl_Weave} {l : List Int} (hp : w.Parents.length ≤ 10000000) (hll : l.length ≤ 1000000000) : spec_l06Parents w l = some (decide (l.length ≤ 4) && rise l w.Parents.length) := by
  unfold spec_l06Parents
  rw [l05Rise_eq hll (by omega) (by omega)]
  by_cases q3 : l.length ≤ 4
  · rw [ifT (b := decide ((l.length : Int) ≤ 4)) (decide_eq_true (by omega)), decide_eq_true q3]
    rfl
  · rw [ifF (b := decide ((l.length : Int) ≤ 4)) (decide_eq_false (by omega)), decide_eq_false q3]
    rfl
theorem blendS {w : T_impl_Weave} {l : List Int} (hs : WSm w) (hll : l.length ≤ 1000000000) : spec_Blend w l = some (blendR w l) := by
  have hp := hs.p
  unfold spec_Blend blendR
  have e2 : spec_WeaveOk (T_impl_Weave.mk w.Parents w.Bodies) = _ := weaveOkS (w := w) hs.p hs.d hs.l
  have e3 : spec_l06Parents (T_impl_Weave.mk w.Parents w.Bodies) l = _ := l06Parents_eq (w := w) hp hll
  rw [e2, e3]
  cases q2 : wOk w with
  | false => rfl
  | true =>
    simp only [Option.bind_some, Bool.not_true, Bool.false_eq_true, if_false, if_true]
    cases q3 : (decide (l.length ≤ 4) && rise l (w.Parents.length : Int)) with
    | false => rfl
    | true =>
      simp only [Option.bind_some, Bool.not_true, Bool.false_eq_true, if_false, if_true]
      simp only [Bool.and_eq_true, decide_eq_true_eq] at q3
      obtain ⟨g1, g2⟩ := seenS_eq hs q2 (rise_in q3.2) hll
      have e4 : spec_l06Seen (T_impl_Weave.mk w.Parents w.Bodies) l = _ := g1
      rw [e4, Option.bind_some]
      have e5 : spec_l06Lines (T_impl_Weave.mk w.Parents w.Bodies) (ints (places (orL (closN w.Parents w.Parents.length) l) w)) = _ := g2
      rw [e5, Option.bind_some]
      by_cases q5 : (seenL w l).length ≤ 80
      · rw [ifF (decide_eq_false (by omega)), if_pos q5]
      · rw [ifT (decide_eq_true (by omega)), if_neg q5]
/-! ### Pick and undo -/
def codeR (w : T_impl_Weave) (a b : Int) : Int := if wOk w = true then (if (vIn w.Parents.length a && vIn w.Parents.length b) = true then 0 else 2) else 1
theorem codeI {w : T_impl_Weave} (hs : WSm w) (a b : Int) : impl_versionsCode w [a, b] = some (codeR w a b) := by
  unfold impl_versionsCode codeR
  have e2 : impl_WeaveOk (T_impl_Weave.mk w.Parents w.Bodies) = _ := weaveOkI (w := w) hs.p hs.d
  have e1 : impl_Weave_areVersions (T_impl_Weave.mk w.Parents w.Bodies) [a, b] = _ := areVersions_eq (w := w) hs.p (by simp)
  rw [e1, e2]
  cases wOk w with
  | false => rfl
  | true =>
    simp only [List.all_cons, List.all_nil, Bool.and_true]
    cases (vIn w.Parents.length a && vIn w.Parents.length b) <;> rfl
theorem l06Has_eq {w : T_impl_Weave} (hp : w.Parents.length ≤ 10000000) (v : Int) : spec_l06Has w v = some (vIn w.Parents.length v) := by
  unfold spec_l06Has vIn
  rw [wk64 (by omega) (by omega), l01In_eq]
  have : decide (v ≤ (w.Parents.length : Int) - 1) = decide (v < (w.Parents.length : Int)) := by
    rw [Bool.eq_iff_iff]
    simp
    omega
  rw [this]
  rfl
theorem codeS {w : T_impl_Weave} (hs : WSm w) (a b : Int) : spec_l23Code w a b = some (codeR w a b) := by
  unfold spec_l23Code codeR
  have e2 : spec_WeaveOk (T_impl_Weave.mk w.Parents w.Bodies) = _ := weaveOkS (w := w) hs.p hs.d hs.l
  have e3 : ∀ v, spec_l06Has (T_impl_Weave.mk w.Parents w.Bodies) v = _ := fun v => l06Has_eq (w := w) hs.p v
  rw [e2, e3, e3]
  cases wOk w with
  | false => rfl
  | true => cases vIn w.Parents.length a <;> cases vIn w.Parents.length b <;> rfl
/-- The lines of the bodies that are taken, and how many are missed. -/
def pickR (take miss : T_impl_Body → Bool) (w : T_impl_Weave) : List ByteArray × Int := ((w.Bodies.filter take).map (·.Line), ((w.Bodies.filter miss).length : Int))
theorem pick_go (take miss : T_impl_Body → Bool) : ∀ (l : List T_impl_Body) (i : Nat) (b : Int × List ByteArray), goE (ρ := Int × List ByteArray) (fun _ (b : Int × List ByteArray) x => .inl (if miss x = true then b.1 + 1 else b.1, if take x = true then b.2 ++ [x.Line] else b.2)) id l i b = (b.1 + ((l.filter miss).length : Int), b.2 ++ (l.filter take).map (·.Line))
  | [], _, b => by simp [goE]
  | x :: l, i, b => by
    simp only [goE]
    rw [pick_go take miss l (i + 1)]
    congr 1
    · cases h : miss x <;> simp [h]
      omega
    · cases h : take x <;> simp [h]
def pickInv (i : Nat) (b : Int × List ByteArray) : Prop := 0 ≤ b.1 ∧ b.1 ≤ i ∧ b.2.length ≤ i
theorem pickInv_step {take miss : T_impl_Body → Bool} {i : Nat} {b : Int × List ByteArray} {x : T_impl_Body} (h : pickInv i b) : pickInv (i + 1) (if miss x = true then b.1 + 1 else b.1, if take x = true then b.2 ++ [x.Line] else b.2) := by
  obtain ⟨h1, h2, h3⟩ := h
  refine ⟨?_, ?_, ?_⟩ <;> simp only <;> split <;> (try simp only [List.length_append, List.length_singleton]) <;> omega
theorem pickBy_eq {w : T_impl_Weave} {take miss : T_impl_Body → Option Bool} {tk ms : T_impl_Body → Bool} (hb : w.Bodies.length ≤ 300) (ht : ∀ b ∈ w.Bodies, take b = some (tk b)) (hm : ∀ b ∈ w.Bodies, miss b = some (ms b)) : impl_pickBy w take miss = some (pickR tk ms w) := by
  unfold impl_pickBy
  have := loopE (body := fun (s' : Int × Int × (List ByteArray)) => impl_pickBy_l1 w take miss s'.1 s'.2.1 s'.2.2) (fun i (b : Int × List ByteArray) => (b.1, (i : Int), b.2)) w.Bodies (fun _ (b : Int × List ByteArray) x => (.inl (if ms x = true then b.1 + 1 else b.1, if tk x = true then b.2 ++ [x.Line] else b.2) : Int × List ByteArray ⊕ Int × List ByteArray)) id pickInv (fun i x b hi hil hI => by
    left
    refine ⟨_, rfl, ?_, pickInv_step hI⟩
    have hx := List.mem_of_getElem? hi
    obtain ⟨h1, h2, h3⟩ := hI
    show impl_pickBy_l1 w take miss b.1 i b.2 = _
    unfold impl_pickBy_l1
    have e1 : take (T_impl_Body.mk x.Line x.Ins x.Ord x.Dels) = some (tk x) := ht x hx
    have e2 : miss (T_impl_Body.mk x.Line x.Ins x.Ord x.Dels) = some (ms x) := hm x hx
    have e3 : ∀ o : List ByteArray, impl_pickBy_j2 miss b.1 i x o = some (.inl (if ms x = true then b.1 + 1 else b.1, ((i + 1 : Nat) : Int), o)) := fun o => by
      unfold impl_pickBy_j2
      rw [e2, Option.bind_some, wkS i (by omega), wk64 (by omega) (by omega)]
      cases ms x <;> rfl
    rw [ifT (by simpa using hil), geti_nat, hi, Option.bind_some, e1, Option.bind_some]
    cases tk x with
    | true => rw [ifT rfl, appn_in (by simp; omega), Option.bind_some, e3]; rfl
    | false => rw [ifF rfl, e3]; rfl) (fun b hI => by
    show impl_pickBy_l1 w take miss b.1 w.Bodies.length b.2 = _
    unfold impl_pickBy_l1
    rw [ifF (by simp)]
    rfl) (b0 := (0, [])) ⟨by simp, by simp, by simp⟩
  have e0 : ((0 : Nat) : Int) = 0 := rfl
  simp only [e0] at this
  rw [this, pick_go, Option.bind_some]
  simp only [List.nil_append, Int.zero_add]
  rfl
theorem hasDel_eq {b : T_impl_Body} {v : Int} (hl : b.Dels.length ≤ 1000000000) : impl_Body_hasDel b v = some (b.Dels.contains v) := by
  unfold impl_Body_hasDel slices_Contains_int_int slices_Index_int_int
  have := loopE (body := fun s' => slices_Index_int_int_l1 b.Dels v s') (fun i (_ : Unit) => (i : Int)) b.Dels (fun i _ x => if (v == x) = true then .inr (.inl (i : Int)) else .inl ()) (fun _ => .inr ()) (fun _ _ => True) (fun i x _ hi hil _ => by
    have h : slices_Index_int_int_l1 b.Dels v i = some (if (v == x) = true then .inr (.inl (i : Int)) else .inl (((i + 1 : Nat)) : Int)) := by
      unfold slices_Index_int_int_l1
      rw [ifT (by simpa using hil), geti_nat, hi, Option.bind_some, wkS i (by omega)]
      split <;> rfl
    by_cases q : (v == x) = true
    · right
      exact ⟨_, if_pos q, by rw [h, if_pos q]⟩
    · left
      exact ⟨(), if_neg q, by rw [h, if_neg q], trivial⟩) (fun _ _ => by
    unfold slices_Index_int_int_l1
    rw [ifF (by simp)]) (b0 := ()) trivial
  have key : ∀ (l : List Int) (i : Nat), (match goE (fun (i : Nat) (_ : Unit) x => if (v == x) = true then (.inr (.inl (i : Int)) : Unit ⊕ (Int ⊕ Unit)) else .inl ()) (fun _ => .inr ()) l i () with | .inl c => decide (c ≥ 0) | .inr _ => false) = l.contains v := by
    intro l
    induction l with
    | nil => intro i; simp [goE]
    | cons x l ih =>
      intro i
      simp only [goE]
      by_cases q : (v == x) = true
      · rw [if_pos q]
        simp only [List.contains_cons, q, Bool.true_or]
        simp
      · rw [if_neg q]
        simp only
        rw [ih (i + 1)]
        have q : (v == x) = false := by simpa using q
        rw [List.contains_cons, q, Bool.false_or]
  have e0 : ((0 : Nat) : Int) = 0 := rfl
  simp only [e0] at this
  rw [this, Option.bind_some, ← key b.Dels 0]
  generalize goE (fun (i : Nat) (_ : Unit) x => if (v == x) = true then (.inr (.inl (i : Int)) : Unit ⊕ (Int ⊕ Unit)) else .inl ()) (fun _ => .inr ()) b.Dels 0 () = r
  cases r with
  | inl c => rfl
  | inr u => rfl
theorem all_ne (v : Int) : ∀ l : List Int, l.all (fun x => !(x == v)) = !l.contains v
  | [] => rfl
  | x :: l => by
    rw [List.all_cons, List.contains_cons, Bool.not_or, all_ne v l]
    have : (x == v) = (v == x) := by rw [Bool.eq_iff_iff, beq_iff_eq, beq_iff_eq]; exact eq_comm
    rw [this]
theorem l07In_eq {l : List Int} {v : Int} (hl : l.length ≤ 1000000000) : spec_l07In l v = some (l.contains v) := by
  unfold spec_l07In
  have := loopAllL (body := fun s' => spec_l07In_l1 l v s') (good := .inr ()) (bad := .inl true) l (fun x => !(x == v)) (fun i x hi hil => by
    unfold spec_l07In_l1
    rw [ifT (by simpa using hil), geti_nat, hi, Option.bind_some, wkS i (by omega)]
    cases (x == v) <;> rfl) (by
    unfold spec_l07In_l1
    rw [ifF (by simp)])
  rw [this, Option.bind_some]
  rw [all_ne]
  cases l.contains v <;> rfl
def pickT (s : Nat) (v : Int) (b : T_impl_Body) : Bool := (liveN s b && !b.Dels.contains v) || (b.Ins == v)
def pickM (s : Nat) (v : Int) (b : T_impl_Body) : Bool := b.Dels.contains v && !liveN s b
def pickOnR (w : T_impl_Weave) (a v : Int) : List ByteArray × Int × Int :=
  if codeR w a v = 0 then ((pickR (pickT (clo w.Parents a.toNat) v) (pickM (clo w.Parents a.toNat) v) w).1, (pickR (pickT (clo w.Parents a.toNat) v) (pickM (clo w.Parents a.toNat) v) w).2, 0) else ([], 0, codeR w a v)
theorem codeR_0 {w : T_impl_Weave} {a v : Int} (h : codeR w a v = 0) : wOk w = true ∧ (0 ≤ a ∧ a < w.Parents.length) ∧ 0 ≤ v ∧ v < w.Parents.length := by
  unfold codeR at h
  split at h
  · rename_i hw
    split at h
    · rename_i hv
      unfold vIn at hv
      simp only [Bool.and_eq_true, decide_eq_true_eq] at hv
      exact ⟨hw, hv.1, hv.2⟩
    · omega
  · omega
theorem pickOnI {w : T_impl_Weave} (hs : WSm w) (a v : Int) : impl_PickOn w a v = some (pickOnR w a v) := by
  unfold impl_PickOn pickOnR
  have e1 : impl_versionsCode (T_impl_Weave.mk w.Parents w.Bodies) [a, v] = _ := codeI (w := w) hs a v
  rw [e1, Option.bind_some]
  by_cases q : codeR w a v = 0
  · obtain ⟨hw, ha, hv⟩ := codeR_0 q
    obtain ⟨hg, hb⟩ := wOk_g hw
    have hclt := clo_lt hg a.toNat
    have hcl : (closN w.Parents w.Parents.length).length = w.Parents.length := closN_len _ _
    rw [if_pos q, ifF (by simp [q]), closures_eq hg, Option.bind_some, us_get ha.1 (by rw [hcl]; exact ha.2), Option.bind_some]
    have e2 : impl_pickBy (T_impl_Weave.mk w.Parents w.Bodies) (fun z0' => impl_PickOn_c1 z0' ((clo w.Parents a.toNat : Nat) : Int) v) (fun z0' => impl_PickOn_c2 z0' v ((clo w.Parents a.toNat : Nat) : Int)) = _ := pickBy_eq (w := w) (tk := pickT (clo w.Parents a.toNat) v) (ms := pickM (clo w.Parents a.toNat) v) hb (fun b hm => by
      have hd := hs.d.2 b hm
      have e3 : impl_Body_isLive (T_impl_Body.mk b.Line b.Ins b.Ord b.Dels) ((clo w.Parents a.toNat : Nat) : Int) = _ := isLive_eq (b := b) hclt hd
      have e4 : impl_Body_hasDel (T_impl_Body.mk b.Line b.Ins b.Ord b.Dels) v = _ := hasDel_eq (b := b) hd
      unfold impl_PickOn_c1 pickT
      rw [e3, e4]
      cases liveN (clo w.Parents a.toNat) b <;> cases b.Dels.contains v <;> rfl) (fun b hm => by
      have hd := hs.d.2 b hm
      have e3 : impl_Body_isLive (T_impl_Body.mk b.Line b.Ins b.Ord b.Dels) ((clo w.Parents a.toNat : Nat) : Int) = _ := isLive_eq (b := b) hclt hd
      have e4 : impl_Body_hasDel (T_impl_Body.mk b.Line b.Ins b.Ord b.Dels) v = _ := hasDel_eq (b := b) hd
      unfold impl_PickOn_c2 pickM
      rw [e3, e4]
      cases liveN (clo w.Parents a.toNat) b <;> cases b.Dels.contains v <;> rfl)
    exact (congrArg (fun z : Option (List ByteArray × Int) => z.bind _) e2).trans rfl
  · rw [if_neg q, ifT (by simpa using q)]
theorem pickOnS {w : T_impl_Weave} (hs : WSm w) (a v : Int) : spec_PickOn w a v = some (pickOnR w a v) := by
  unfold spec_PickOn pickOnR
  have e1 : spec_l23Code (T_impl_Weave.mk w.Parents w.Bodies) a v = _ := codeS (w := w) hs a v
  rw [e1, Option.bind_some]
  by_cases q : codeR w a v = 0
  · obtain ⟨hw, ha, hv⟩ := codeR_0 q
    obtain ⟨hg, hb⟩ := wOk_g hw
    have hag := agree_one hg ha.1 ha.2
    have e2 : spec_l06Closure (T_impl_Weave.mk w.Parents w.Bodies) a = some (setL w.Parents [a]) := closureS (w := w) hg a
    rw [if_pos q, ifF (by simp [q]), e2, Option.bind_some]
    have := loopE (body := fun (s' : Int × Int × (List ByteArray)) => spec_PickOn_l1 w v (setL w.Parents [a]) s'.1 s'.2.1 s'.2.2) (fun i (b : Int × List ByteArray) => (b.1, (i : Int), b.2)) w.Bodies (fun _ (b : Int × List ByteArray) x => (.inl (if pickM (clo w.Parents a.toNat) v x = true then b.1 + 1 else b.1, if pickT (clo w.Parents a.toNat) v x = true then b.2 ++ [x.Line] else b.2) : Int × List ByteArray ⊕ Int × List ByteArray)) id pickInv (fun i x b hi hil hI => by
      left
      refine ⟨_, rfl, ?_, pickInv_step hI⟩
      have hd := hs.d.2 x (List.mem_of_getElem? hi)
      obtain ⟨h1, h2, h3⟩ := hI
      show spec_PickOn_l1 w v (setL w.Parents [a]) b.1 i b.2 = _
      unfold spec_PickOn_l1
      have e3 : spec_l06Live (T_impl_Body.mk x.Line x.Ins x.Ord x.Dels) (setL w.Parents [a]) = _ := l06Live_eq (b := x) hag hd
      have e5 : ∀ (x43 x47 : Bool) (o : List ByteArray), spec_PickOn_j2 b.1 i x43 x47 o = some (.inl (if (x47 && !x43) = true then b.1 + 1 else b.1, ((i + 1 : Nat) : Int), o)) := fun x43 x47 o => by
        unfold spec_PickOn_j2
        rw [wkS i (by omega), wk64 (by omega) (by omega)]
        cases x43 <;> cases x47 <;> rfl
      rw [ifT (by simpa using hil), geti_nat, hi, Option.bind_some, e3, Option.bind_some, l07In_eq hd, Option.bind_some, appn_in (by simp; omega)]
      cases hL : liveN (clo w.Parents a.toNat) x <;> cases hC : x.Dels.contains v <;> cases hI2 : (x.Ins == v) <;> simp only [e5, Option.bind_some, pickT, pickM, hL, hC, hI2, if_true, if_false, Bool.false_eq_true, Bool.not_true, Bool.not_false, Bool.and_true, Bool.and_false, Bool.true_and, Bool.or_true, Bool.or_false]) (fun b hI => by
      show spec_PickOn_l1 w v (setL w.Parents [a]) b.1 w.Bodies.length b.2 = _
      unfold spec_PickOn_l1
      rw [ifF (by simp)]
      rfl) (b0 := (0, [])) ⟨by simp, by simp, by simp⟩
    have e0 : ((0 : Nat) : Int) = 0 := rfl
    simp only [e0] at this
    rw [this, pick_go, Option.bind_some]
    simp only [List.nil_append, Int.zero_add]
    rfl
  · rw [if_neg q, ifT (by simpa using q)]
/-! ### Undo -/
def woutB (s : Nat) (v : Int) (d : Int) : Bool := (d == v) || outB s d
def liveW (s : Nat) (v : Int) (b : T_impl_Body) : Bool := (inB b.Ins && s.testBit b.Ins.toNat) && b.Dels.all (woutB s v)
theorem l07Without_eq {l : List Int} {v : Int} (hl : l.length ≤ 1000000000) : spec_l07Without l v = some (l.filter fun x => x != v) := by
  unfold spec_l07Without
  have := loopE (body := fun (s' : Int × (List Int)) => spec_l07Without_l1 l v s'.1 s'.2) (fun i b => ((i : Int), b)) l (fun _ (b : List Int) x => (.inl (if (x != v) = true then b ++ [x] else b) : List Int ⊕ List Int)) id (fun i b => b.length ≤ i) (fun i x b hi hil hI => by
    left
    refine ⟨_, rfl, ?_, by split <;> (try simp only [List.length_append, List.length_singleton]) <;> omega⟩
    show spec_l07Without_l1 l v i b = _
    unfold spec_l07Without_l1
    rw [ifT (by simpa using hil), geti_nat, hi, Option.bind_some, appn_in (by simp; omega), wkS i (by omega)]
    cases (x != v) <;> rfl) (fun b hI => by
    show spec_l07Without_l1 l v l.length b = _
    unfold spec_l07Without_l1
    rw [ifF (by simp)]
    rfl) (b0 := []) (by simp)
  have key : ∀ (l : List Int) (i : Nat) (out : List Int), goE (ρ := List Int) (fun _ (b : List Int) x => .inl (if (x != v) = true then b ++ [x] else b)) id l i out = out ++ l.filter fun x => x != v := by
    intro l
    induction l with
    | nil => intro i out; simp [goE]
    | cons x l ih =>
      intro i out
      simp only [goE]
      rw [ih]
      cases h : (x != v) <;> simp [h]
  have e0 : ((0 : Nat) : Int) = 0 := rfl
  rw [e0] at this
  rw [this, key, Option.bind_some, List.nil_append]
  rfl
theorem all_filter {α : Type} (p q : α → Bool) : ∀ l : List α, (l.filter p).all q = l.all fun x => !p x || q x
  | [] => rfl
  | x :: l => by
    rw [List.filter_cons, List.all_cons, ← all_filter p q l]
    cases h : p x <;> simp
theorem liveN_without (s : Nat) (v : Int) (b : T_impl_Body) : liveN s (T_impl_Body.mk b.Line b.Ins b.Ord (b.Dels.filter fun x => x != v)) = liveW s v b := by
  unfold liveN liveW
  simp only [all_filter]
  congr 2
  funext x
  unfold woutB
  simp only [bne, Bool.not_not]
theorem andNot_u64 {a b : Nat} (ha : a < 2 ^ 64) (hb : b < 2 ^ 64) : ∃ c : Nat, bits .andNot .u64 a b = (c : Int) ∧ c < 2 ^ 64 ∧ ∀ u, c.testBit u = (a.testBit u && !b.testBit u) := by
  refine ⟨(BitVec.ofNat 64 a &&& ~~~(BitVec.ofNat 64 b)).toNat, ?_, BitVec.isLt _, fun u => ?_⟩
  · show IntKind.wrap .u64 ((BitVec.ofInt 64 (a : Int) &&& ~~~(BitVec.ofInt 64 (b : Int))).toNat : Int) = _
    rw [BitVec.ofInt_natCast, BitVec.ofInt_natCast]
    exact wku64 (Int.natCast_nonneg _) (by have := (BitVec.ofNat 64 a &&& ~~~(BitVec.ofNat 64 b)).isLt; omega)
  · rw [BitVec.testBit_toNat, BitVec.getLsbD_and, BitVec.getLsbD_not, BitVec.getLsbD_ofNat, BitVec.getLsbD_ofNat]
    by_cases hu : u < 64
    · simp [hu]
    · have h1 : a.testBit u = false := Nat.testBit_lt_two_pow (Nat.lt_of_lt_of_le ha (Nat.pow_le_pow_right (by decide) (by omega)))
      simp [hu, h1]
theorem liveWithout_eq {b : T_impl_Body} {s : Nat} {v : Int} (hs : s < 2 ^ 64) (hl : b.Dels.length ≤ 1000000000) (hv : 0 ≤ v ∧ v ≤ 63) : impl_Body_isLiveWithout b (s : Int) v = some (liveW s v b) := by
  unfold impl_Body_isLiveWithout liveW
  rw [has_eq hs, Option.bind_some]
  cases q : (inB b.Ins && s.testBit b.Ins.toNat) with
  | false => rfl
  | true =>
    obtain ⟨c, c1, c2, c3⟩ := andNot_u64 (setN_lt b.Dels) (setN_lt [v])
    rw [ifT rfl, setOf_eq hl, Option.bind_some, setOf_eq (by simp), Option.bind_some, c1, and_u64 c2 hs]
    have : (((c &&& s : Nat) : Int) == 0) = b.Dels.all (woutB s v) := by
      rw [Bool.eq_iff_iff, and_zero, List.all_eq_true]
      have hiv : inB v = true := by unfold inB; simp; exact hv
      constructor
      · intro h x hx
        unfold woutB outB
        cases hxv : (x == v) with
        | true => rfl
        | false =>
          cases hi : inB x with
          | false => rfl
          | true =>
            cases hb : s.testBit x.toNat with
            | false => rfl
            | true =>
              refine absurd ⟨?_, hb⟩ (h x.toNat)
              have hxi := inB_lt hi
              rw [c3, setN_test, setN_test, Bool.and_eq_true]
              refine ⟨List.any_eq_true.2 ⟨x, hx, by rw [hi]; simp; omega⟩, ?_⟩
              simp only [List.any_cons, List.any_nil, Bool.or_false, hiv, Bool.true_and, Bool.not_eq_true', beq_eq_false_iff_ne]
              have : ¬ x = v := by simpa using hxv
              omega
      · rintro h u ⟨h1, h2⟩
        rw [c3, setN_test, setN_test, Bool.and_eq_true, List.any_eq_true] at h1
        obtain ⟨⟨x, hx, h3⟩, h4⟩ := h1
        simp only [Bool.and_eq_true, beq_iff_eq] at h3
        simp only [List.any_cons, List.any_nil, Bool.or_false, hiv, Bool.true_and, Bool.not_eq_true', beq_eq_false_iff_ne] at h4
        have := h x hx
        unfold woutB outB at this
        rw [h3.1, h3.2] at this
        have hne : ((u : Int) == v) = false := by
          rw [beq_eq_false_iff_ne]
          exact fun e => h4 e.symm
        rw [hne] at this
        simp [h2] at this
    rw [this]
    rfl
def undoT (s : Nat) (v : Int) (b : T_impl_Body) : Bool := if liveN s b = true then b.Ins != v else liveW s v b
def undoM (s : Nat) (v : Int) (b : T_impl_Body) : Bool := (b.Ins == v) && !liveN s b
def undoOnR (w : T_impl_Weave) (a v : Int) : List ByteArray × Int × Int :=
  if codeR w a v = 0 then ((pickR (undoT (clo w.Parents a.toNat) v) (undoM (clo w.Parents a.toNat) v) w).1, (pickR (undoT (clo w.Parents a.toNat) v) (undoM (clo w.Parents a.toNat) v) w).2, 0) else ([], 0, codeR w a v)
theorem undoOnI {w : T_impl_Weave} (hs : WSm w) (a v : Int) : impl_UndoOn w a v = some (undoOnR w a v) := by
  unfold impl_UndoOn undoOnR
  have e1 : impl_versionsCode (T_impl_Weave.mk w.Parents w.Bodies) [a, v] = _ := codeI (w := w) hs a v
  rw [e1, Option.bind_some]
  by_cases q : codeR w a v = 0
  · obtain ⟨hw, ha, hv⟩ := codeR_0 q
    obtain ⟨hg, hb⟩ := wOk_g hw
    have hgl := gOk_len hg
    have hclt := clo_lt hg a.toNat
    have hcl : (closN w.Parents w.Parents.length).length = w.Parents.length := closN_len _ _
    rw [if_pos q, ifF (by simp [q]), closures_eq hg, Option.bind_some, us_get ha.1 (by rw [hcl]; exact ha.2), Option.bind_some]
    have e2 : impl_pickBy (T_impl_Weave.mk w.Parents w.Bodies) (fun z0' => impl_UndoOn_c1 z0' ((clo w.Parents a.toNat : Nat) : Int) v) (fun z0' => impl_UndoOn_c2 z0' v ((clo w.Parents a.toNat : Nat) : Int)) = _ := pickBy_eq (w := w) (tk := undoT (clo w.Parents a.toNat) v) (ms := undoM (clo w.Parents a.toNat) v) hb (fun b hm => by
      have hd := hs.d.2 b hm
      have e3 : impl_Body_isLive (T_impl_Body.mk b.Line b.Ins b.Ord b.Dels) ((clo w.Parents a.toNat : Nat) : Int) = _ := isLive_eq (b := b) hclt hd
      have e4 : impl_Body_isLiveWithout (T_impl_Body.mk b.Line b.Ins b.Ord b.Dels) ((clo w.Parents a.toNat : Nat) : Int) v = _ := liveWithout_eq (b := b) hclt hd ⟨hv.1, by omega⟩
      unfold impl_UndoOn_c1 undoT
      rw [e3, e4]
      cases liveN (clo w.Parents a.toNat) b <;> rfl) (fun b hm => by
      have hd := hs.d.2 b hm
      have e3 : impl_Body_isLive (T_impl_Body.mk b.Line b.Ins b.Ord b.Dels) ((clo w.Parents a.toNat : Nat) : Int) = _ := isLive_eq (b := b) hclt hd
      unfold impl_UndoOn_c2 undoM
      rw [e3]
      cases liveN (clo w.Parents a.toNat) b <;> cases (b.Ins == v) <;> rfl)
    exact (congrArg (fun z : Option (List ByteArray × Int) => z.bind _) e2).trans rfl
  · rw [if_neg q, ifT (by simpa using q)]
theorem undoOnS {w : T_impl_Weave} (hs : WSm w) (a v : Int) : spec_UndoOn w a v = some (undoOnR w a v) := by
  unfold spec_UndoOn undoOnR
  have e1 : spec_l23Code (T_impl_Weave.mk w.Parents w.Bodies) a v = _ := codeS (w := w) hs a v
  rw [e1, Option.bind_some]
  by_cases q : codeR w a v = 0
  · obtain ⟨hw, ha, hv⟩ := codeR_0 q
    obtain ⟨hg, hb⟩ := wOk_g hw
    have hag := agree_one hg ha.1 ha.2
    have e2 : spec_l06Closure (T_impl_Weave.mk w.Parents w.Bodies) a = some (setL w.Parents [a]) := closureS (w := w) hg a
    rw [if_pos q, ifF (by simp [q]), e2, Option.bind_some]
    have := loopE (body := fun (s' : Int × Int × (List ByteArray)) => spec_UndoOn_l1 w v (setL w.Parents [a]) s'.1 s'.2.1 s'.2.2) (fun i (b : Int × List ByteArray) => (b.1, (i : Int), b.2)) w.Bodies (fun _ (b : Int × List ByteArray) x => (.inl (if undoM (clo w.Parents a.toNat) v x = true then b.1 + 1 else b.1, if undoT (clo w.Parents a.toNat) v x = true then b.2 ++ [x.Line] else b.2) : Int × List ByteArray ⊕ Int × List ByteArray)) id pickInv (fun i x b hi hil hI => by
      left
      refine ⟨_, rfl, ?_, pickInv_step hI⟩
      have hd := hs.d.2 x (List.mem_of_getElem? hi)
      obtain ⟨h1, h2, h3⟩ := hI
      show spec_UndoOn_l1 w v (setL w.Parents [a]) b.1 i b.2 = _
      unfold spec_UndoOn_l1
      have e3 : spec_l06Live (T_impl_Body.mk x.Line x.Ins x.Ord x.Dels) (setL w.Parents [a]) = _ := l06Live_eq (b := x) hag hd
      have e4 : spec_l06Live (T_impl_Body.mk x.Line x.Ins x.Ord (x.Dels.filter fun y => y != v)) (setL w.Parents [a]) = _ := l06Live_eq (b := T_impl_Body.mk x.Line x.Ins x.Ord (x.Dels.filter fun y => y != v)) hag (Nat.le_trans (List.length_filter_le _ _) hd)
      rw [liveN_without] at e4
      have e5 : ∀ (x42 : Bool) (o : List ByteArray), spec_UndoOn_j2 v b.1 i x x42 o = some (.inl (if ((x.Ins == v) && !x42) = true then b.1 + 1 else b.1, ((i + 1 : Nat) : Int), o)) := fun x42 o => by
        unfold spec_UndoOn_j2
        rw [wkS i (by omega), wk64 (by omega) (by omega)]
        cases x42 <;> cases (x.Ins == v) <;> rfl
      rw [ifT (by simpa using hil), geti_nat, hi, Option.bind_some, e3, Option.bind_some, l07Without_eq hd, Option.bind_some, e4, appn_in (by simp; omega)]
      cases hL : liveN (clo w.Parents a.toNat) x <;> cases hC : liveW (clo w.Parents a.toNat) v x <;> cases hI2 : (x.Ins == v) <;> simp only [e5, bne, Option.bind_some, undoT, undoM, hL, hC, hI2, if_true, if_false, Bool.false_eq_true, Bool.not_true, Bool.not_false, Bool.and_true, Bool.and_false, Bool.true_and, Bool.or_true, Bool.or_false]) (fun b hI => by
      show spec_UndoOn_l1 w v (setL w.Parents [a]) b.1 w.Bodies.length b.2 = _
      unfold spec_UndoOn_l1
      rw [ifF (by simp)]
      rfl) (b0 := (0, [])) ⟨by simp, by simp, by simp⟩
    have e0 : ((0 : Nat) : Int) = 0 := rfl
    simp only [e0] at this
    rw [this, pick_go, Option.bind_some]
    simp only [List.nil_append, Int.zero_add]
    rfl
  · rw [if_neg q, ifT (by simpa using q)]
end Go.TV.F
/- Plain Lean: how large things are, copies, compares, marks. Written by a program. -/
namespace Go.TV.F
open Go.TV
theorem markText_total {k : Nat} (h : k ≤ 1000000000) : ∃ t, laws_markText (k : Int) = some t := by
  unfold laws_markText
  by_cases q : k = 0
  · subst q
    exact ⟨_, rfl⟩
  rw [ifF (by simp; omega)]
  obtain ⟨r, h1, h2⟩ := loopK1 (f := fun (s' : Int × ByteArray) => laws_markText_l1 s'.1 s'.2) (fun s => ∃ n : Nat, s.1 = n ∧ n + s.2.size ≤ 1000000000) (fun s => s.1.toNat) (fun r => r.size ≤ 1000000000)
    (s := ((k : Int), ByteArray.mk #[])) ⟨k, rfl, h⟩ (fun s hs => by
    obtain ⟨n, h1, h2⟩ := hs
    obtain ⟨x, out⟩ := s
    simp only at h1 h2 ⊢
    subst h1
    unfold laws_markText_l1
    by_cases q : n = 0
    · rw [ifF (by simp; omega)]
      exact .inr ⟨_, rfl, by omega⟩
    · rw [ifT (by simp; omega)]
      generalize hz : mkS [wk .u8 (wk .i64 (48 + ((n : Int)).tmod 10))] = z
      have hzs : z.size = 1 := by rw [← hz, mkSK]; rfl
      rw [sapp_in (by omega), Option.bind_some, show (10 : Int) = ((10 : Nat) : Int) from rfl, tdivK, wk64 (by omega) (by omega)]
      refine .inl ⟨_, rfl, ⟨n / 10, rfl, ?_⟩, ?_⟩
      · simp only [ByteArray.size_append]
        omega
      · simp only
        omega)
  rw [h1, Option.bind_some]
  unfold laws_markText_j1
  rw [sapp_in (by have : (ByteArray.mk #[109]).size = 1 := rfl; omega)]
  exact ⟨_, rfl⟩
noncomputable def mT (k : Int) : ByteArray := (laws_markText k).getD (ByteArray.mk #[])
theorem markText_eq {k : Int} (h0 : 0 ≤ k) (h : k ≤ 1000000000) : laws_markText k = some (mT k) := by
  obtain ⟨n, rfl⟩ : ∃ n : Nat, k = n := ⟨k.toNat, by omega⟩
  obtain ⟨t, ht⟩ := markText_total (k := n) (by omega)
  unfold mT
  rw [ht]
  rfl
def w_IntS (a : List Int) : Nat := a.length
def ok_IntS (a : List Int) : Prop := a.length ≤ LB
def sm_IntS (a : List Int) : Prop := a.length * 8 ≤ 140737488351232 ∧ ∀ x ∈ a, (Lit.int .i64 x).wf = true
theorem ok_of_IntS {a : List Int} (h : sm_IntS a) : ok_IntS a := by have := h.1; unfold ok_IntS LB; omega
def c_IntS (a : List Int) : List Int := a
theorem sz_IntS {a : List Int} {s : Int} (h : ok_IntS a) (h0 : 0 ≤ s) (h1 : s ≤ 1048576) : laws_szIntS a s = some (if (w_IntS a : Int) ≤ s then s - w_IntS a else -1) := by
  have hl : a.length ≤ 1000000000000000 := h
  unfold laws_szIntS w_IntS
  rw [wk64 (x := s - (a.length : Int)) (by omega) (by omega)]
  by_cases q : s - (a.length : Int) < 0
  · rw [ifT (by simpa using q), if_neg (by omega)]
  · rw [ifF (by simpa using q), if_pos (by omega)]
theorem to_IntS {a : List Int} (h : w_IntS a ≤ 1048576) : laws_toIntS a = some (c_IntS a) := by
  have hl : a.length ≤ 1048576 := by unfold w_IntS at h; omega
  unfold laws_toIntS
  rw [mkl_in (by omega) (by omega), Option.bind_some, Int.toNat_natCast]
  have := to_loop (body := fun (s' : Int × (List Int)) => laws_toIntS_l1 a s'.1 s'.2) a (fun x => x) 0 (fun i x out hi hl2 => by
    have hlt := (List.getElem?_eq_some_iff.1 hi).1
    show laws_toIntS_l1 a i out = _
    unfold laws_toIntS_l1
    rw [ifT (by simpa using hlt), geti_nat, hi, Option.bind_some]
    rw [geti_nat, List.getElem?_eq_getElem (by omega), Option.bind_some, wk64 (by omega) (by omega), Int.toNat_natCast]
    rfl) (fun out hl2 => by
    show laws_toIntS_l1 a a.length out = _
    unfold laws_toIntS_l1
    rw [ifF (by simp)])
  rw [this]
  show some (a.map (fun x => x)) = some a
  rw [List.map_id']
def w_IntSS (a : List (List Int)) : Nat := a.length + sumOf w_IntS a
def ok_IntSS (a : List (List Int)) : Prop := a.length ≤ LB ∧ ∀ x ∈ a, ok_IntS x
def sm_IntSS (a : List (List Int)) : Prop := a.length * 24 ≤ 140737488351232 ∧ ∀ x ∈ a, sm_IntS x
theorem ok_of_IntSS {a : List (List Int)} (h : sm_IntSS a) : ok_IntSS a := ⟨by have := h.1; unfold LB; omega, fun x hx => ok_of_IntS (h.2 x hx)⟩
def c_IntSS (a : List (List Int)) : List (List Int) := a
theorem sz_IntSS {a : List (List Int)} {s : Int} (h : ok_IntSS a) (h0 : 0 ≤ s) (h1 : s ≤ 1048576) : laws_szIntSS a s = some (if (w_IntSS a : Int) ≤ s then s - w_IntSS a else -1) := by
  have hl : a.length ≤ 1000000000000000 := h.1
  unfold laws_szIntSS w_IntSS
  rw [wk64 (x := s - (a.length : Int)) (by omega) (by omega)]
  by_cases q : s - (a.length : Int) < 0
  · rw [ifT (by simpa using q), if_neg (by omega)]
  · rw [ifF (by simpa using q)]
    have := sz_loop (body := fun (s' : Int × Int) => laws_szIntSS_l1 a s'.1 s'.2) w_IntS a (s - a.length) (by omega) (fun t i x hi h2 h3 => by
      have hlt := (List.getElem?_eq_some_iff.1 hi).1
      have hxs := h.2 x (List.mem_of_getElem? hi)
      show laws_szIntSS_l1 a t i = _
      unfold laws_szIntSS_l1
      rw [ifT (by simpa using hlt), geti_nat, hi, Option.bind_some, sz_IntS hxs h2 (by omega), Option.bind_some]
      by_cases q2 : (w_IntS x : Int) ≤ t
      · rw [if_pos q2, ifF (by simp; omega), if_pos q2, wk64 (by omega) (by omega)]
        rfl
      · rw [if_neg q2, ifT (by simp), if_neg q2]) (fun t => by
      show laws_szIntSS_l1 a t a.length = _
      unfold laws_szIntSS_l1
      rw [ifF (by simp)])
    rw [this, Option.bind_some]
    by_cases q2 : (sumOf w_IntS a : Int) ≤ s - a.length
    · rw [if_pos q2, if_pos (by omega)]
      simp only [laws_szIntSS_j1]
      congr 1
      omega
    · rw [if_neg q2, if_neg (by omega)]
theorem to_IntSS {a : List (List Int)} (h : w_IntSS a ≤ 1048576) : laws_toIntSS a = some (c_IntSS a) := by
  have hl : a.length ≤ 1048576 := by unfold w_IntSS at h; omega
  unfold laws_toIntSS
  rw [mkl_in (by omega) (by omega), Option.bind_some, Int.toNat_natCast]
  have := to_loop (body := fun (s' : Int × (List (List Int))) => laws_toIntSS_l1 a s'.1 s'.2) a (fun x => c_IntS x) [] (fun i x out hi hl2 => by
    have hlt := (List.getElem?_eq_some_iff.1 hi).1
    have hw : w_IntS x ≤ 1048576 := by have := sumOf_mem (w := w_IntS) (List.mem_of_getElem? hi); unfold w_IntSS at h; omega
    show laws_toIntSS_l1 a i out = _
    unfold laws_toIntSS_l1
    rw [ifT (by simpa using hlt), geti_nat, hi, Option.bind_some]
    rw [to_IntS hw, Option.bind_some]
    rw [geti_nat, List.getElem?_eq_getElem (by omega), Option.bind_some, wk64 (by omega) (by omega), Int.toNat_natCast]
    rfl) (fun out hl2 => by
    show laws_toIntSS_l1 a a.length out = _
    unfold laws_toIntSS_l1
    rw [ifF (by simp)])
  rw [this]
  show some (a.map (fun x => c_IntS x)) = some (c_IntSS a)
  unfold c_IntSS; congr 1; exact (List.map_congr_left (fun x _ => rfl)).trans (List.map_id' a)
def w_Body (a : T_laws_Body) : Nat := a.Line.size + w_IntS a.Dels
def ok_Body (a : T_laws_Body) : Prop := a.Line.size ≤ LB ∧ ok_IntS a.Dels
def sm_Body (a : T_laws_Body) : Prop := a.Line.size ≤ 140737488351232 ∧ (Lit.int .i64 a.Ins).wf = true ∧ (Lit.int .i64 a.Ord).wf = true ∧ sm_IntS a.Dels
theorem ok_of_Body {a : T_laws_Body} (h : sm_Body a) : ok_Body a := ⟨Nat.le_trans h.1 (by decide), ok_of_IntS h.2.2.2⟩
def c_Body (a : T_laws_Body) : T_impl_Body := ⟨a.Line, a.Ins, a.Ord, a.Dels⟩
theorem sz_Body {a : T_laws_Body} {s : Int} (h : ok_Body a) (h0 : 0 ≤ s) (h1 : s ≤ 1048576) : laws_szBody a s = some (if (w_Body a : Int) ≤ s then s - w_Body a else -1) := by
  unfold ok_Body at h
  obtain ⟨o0, o1⟩ := h
  have p0 : a.Line.size ≤ 1000000000000000 := o0
  unfold laws_szBody w_Body
  rw [wk64 (x := s - (a.Line.size : Int)) (by omega) (by omega)]
  by_cases q0 : s - (a.Line.size : Int) < 0
  · rw [ifT (by simpa using q0), if_neg (by omega)]
  rw [ifF (by simpa using q0)]
  rw [sz_IntS o1 (by omega) (by omega), Option.bind_some]
  by_cases q1 : (w_IntS a.Dels : Int) ≤ s - (a.Line.size : Int)
  case neg => rw [if_neg q1, ifT (by simp), if_neg (by omega)]
  rw [if_pos q1, ifF (by simp; omega)]
  exact congrArg some (by split <;> omega)
theorem to_Body {a : T_laws_Body} (h : w_Body a ≤ 1048576) : laws_toBody a = some (c_Body a) := by
  unfold w_Body at h
  unfold laws_toBody
  rw [to_IntS (by omega), Option.bind_some]
  rfl
def w_BodyS (a : List T_laws_Body) : Nat := a.length + sumOf w_Body a
def ok_BodyS (a : List T_laws_Body) : Prop := a.length ≤ LB ∧ ∀ x ∈ a, ok_Body x
def sm_BodyS (a : List T_laws_Body) : Prop := a.length * 56 ≤ 140737488351232 ∧ ∀ x ∈ a, sm_Body x
theorem ok_of_BodyS {a : List T_laws_Body} (h : sm_BodyS a) : ok_BodyS a := ⟨by have := h.1; unfold LB; omega, fun x hx => ok_of_Body (h.2 x hx)⟩
def c_BodyS (a : List T_laws_Body) : List T_impl_Body := a.map c_Body
theorem sz_BodyS {a : List T_laws_Body} {s : Int} (h : ok_BodyS a) (h0 : 0 ≤ s) (h1 : s ≤ 1048576) : laws_szBodyS a s = some (if (w_BodyS a : Int) ≤ s then s - w_BodyS a else -1) := by
  have hl : a.length ≤ 1000000000000000 := h.1
  unfold laws_szBodyS w_BodyS
  rw [wk64 (x := s - (a.length : Int)) (by omega) (by omega)]
  by_cases q : s - (a.length : Int) < 0
  · rw [ifT (by simpa using q), if_neg (by omega)]
  · rw [ifF (by simpa using q)]
    have := sz_loop (body := fun (s' : Int × Int) => laws_szBodyS_l1 a s'.1 s'.2) w_Body a (s - a.length) (by omega) (fun t i x hi h2 h3 => by
      have hlt := (List.getElem?_eq_some_iff.1 hi).1
      have hxs := h.2 x (List.mem_of_getElem? hi)
      show laws_szBodyS_l1 a t i = _
      unfold laws_szBodyS_l1
      rw [ifT (by simpa using hlt), geti_nat, hi, Option.bind_some, sz_Body hxs h2 (by omega), Option.bind_some]
      by_cases q2 : (w_Body x : Int) ≤ t
      · rw [if_pos q2, ifF (by simp; omega), if_pos q2, wk64 (by omega) (by omega)]
        rfl
      · rw [if_neg q2, ifT (by simp), if_neg q2]) (fun t => by
      show laws_szBodyS_l1 a t a.length = _
      unfold laws_szBodyS_l1
      rw [ifF (by simp)])
    rw [this, Option.bind_some]
    by_cases q2 : (sumOf w_Body a : Int) ≤ s - a.length
    · rw [if_pos q2, if_pos (by omega)]
      simp only [laws_szBodyS_j1]
      congr 1
      omega
    · rw [if_neg q2, if_neg (by omega)]
theorem to_BodyS {a : List T_laws_Body} (h : w_BodyS a ≤ 1048576) : laws_toBodyS a = some (c_BodyS a) := by
  have hl : a.length ≤ 1048576 := by unfold w_BodyS at h; omega
  unfold laws_toBodyS
  rw [mkl_in (by omega) (by omega), Option.bind_some, Int.toNat_natCast]
  have := to_loop (body := fun (s' : Int × (List T_impl_Body)) => laws_toBodyS_l1 a s'.1 s'.2) a (fun x => c_Body x) (T_impl_Body.mk (ByteArray.mk #[]) 0 0 []) (fun i x out hi hl2 => by
    have hlt := (List.getElem?_eq_some_iff.1 hi).1
    have hw : w_Body x ≤ 1048576 := by have := sumOf_mem (w := w_Body) (List.mem_of_getElem? hi); unfold w_BodyS at h; omega
    show laws_toBodyS_l1 a i out = _
    unfold laws_toBodyS_l1
    rw [ifT (by simpa using hlt), geti_nat, hi, Option.bind_some]
    rw [to_Body hw, Option.bind_some]
    rw [geti_nat, List.getElem?_eq_getElem (by omega), Option.bind_some, wk64 (by omega) (by omega), Int.toNat_natCast]
    rfl) (fun out hl2 => by
    show laws_toBodyS_l1 a a.length out = _
    unfold laws_toBodyS_l1
    rw [ifF (by simp)])
  rw [this]
  show some (a.map (fun x => c_Body x)) = some (c_BodyS a)
  rfl
def w_Weave (a : T_laws_Weave) : Nat := w_IntSS a.Parents + w_BodyS a.Bodies
def ok_Weave (a : T_laws_Weave) : Prop := ok_IntSS a.Parents ∧ ok_BodyS a.Bodies
def sm_Weave (a : T_laws_Weave) : Prop := sm_IntSS a.Parents ∧ sm_BodyS a.Bodies
theorem ok_of_Weave {a : T_laws_Weave} (h : sm_Weave a) : ok_Weave a := ⟨ok_of_IntSS h.1, ok_of_BodyS h.2⟩
def c_Weave (a : T_laws_Weave) : T_impl_Weave := ⟨a.Parents, c_BodyS a.Bodies⟩
theorem sz_Weave {a : T_laws_Weave} {s : Int} (h : ok_Weave a) (h0 : 0 ≤ s) (h1 : s ≤ 1048576) : laws_szWeave a s = some (if (w_Weave a : Int) ≤ s then s - w_Weave a else -1) := by
  unfold ok_Weave at h
  obtain ⟨o0, o1⟩ := h
  unfold laws_szWeave w_Weave
  rw [sz_IntSS o0 (by omega) (by omega), Option.bind_some]
  by_cases q0 : (w_IntSS a.Parents : Int) ≤ s
  case neg => rw [if_neg q0, ifT (by simp), if_neg (by omega)]
  rw [if_pos q0, ifF (by simp; omega)]
  rw [sz_BodyS o1 (by omega) (by omega), Option.bind_some]
  by_cases q1 : (w_BodyS a.Bodies : Int) ≤ s - (w_IntSS a.Parents : Int)
  case neg => rw [if_neg q1, ifT (by simp), if_neg (by omega)]
  rw [if_pos q1, ifF (by simp; omega)]
  exact congrArg some (by split <;> omega)
theorem to_Weave {a : T_laws_Weave} (h : w_Weave a ≤ 1048576) : laws_toWeave a = some (c_Weave a) := by
  unfold w_Weave at h
  unfold laws_toWeave
  rw [to_IntSS (by omega), Option.bind_some]
  rw [to_BodyS (by omega), Option.bind_some]
  rfl
def z_StringS (a : List ByteArray) : Nat := a.length
def n_StringS (a : List ByteArray) : Nat := sumOf (fun _ => 1) a
noncomputable def m_StringS (a : List ByteArray) (k : Int) : List ByteArray := mkL (fun _ => 1) (fun _ k => mT k) a k
theorem eq_StringS {a : List ByteArray} (h : z_StringS a ≤ 1000000000) : laws_eqStringS a a = some true := by
  have hl : a.length ≤ 1000000000 := by unfold z_StringS at h; omega
  unfold laws_eqStringS
  rw [ifF (by simp)]
  have := eq_loop (body := fun s' => laws_eqStringS_l1 a a s') (r := .inr ()) a.length (fun i hi => by
    unfold laws_eqStringS_l1
    rw [ifT (by simpa using hi), geti_nat, List.getElem?_eq_getElem hi, Option.bind_some, Option.bind_some]
    rw [ifF (by simp), wk64 (by omega) (by omega)]
    rfl) (by
    unfold laws_eqStringS_l1
    rw [ifF (by simp)])
  rw [this]
  rfl
theorem mark_StringS {a : List ByteArray} {k : Int} (h1 : 1 ≤ k) (h2 : k + n_StringS a ≤ 1000000000) (h3 : z_StringS a ≤ 1000000000) : laws_markStringS a k = some (k + n_StringS a, m_StringS a k) := by
  have hl : a.length ≤ 1000000000 := by unfold z_StringS at h3; omega
  unfold laws_markStringS
  have := mark_loop (body := fun (s' : Int × Int × (List ByteArray)) => laws_markStringS_l1 s'.1 s'.2.1 s'.2.2) (fun _ => 1) (fun _ k => mT k) a k 1000000000 h1 h2 (fun k i x l hi hx hl2 hk hB => by
    have hlt : i < l.length := (List.getElem?_eq_some_iff.1 hi).1
    show laws_markStringS_l1 k i l = _
    unfold laws_markStringS_l1
    rw [ifT (by simp; omega)]
    simp (disch := first | omega | (simp only; omega)) only [markText_eq, wk64, geti_nat, gset, hi, Option.bind_some, List.set_set, Int.toNat_natCast]
    refine inl3 ?_ (by omega) rfl
    rfl) (fun k l hl2 => by
    show laws_markStringS_l1 k a.length l = _
    unfold laws_markStringS_l1
    rw [ifF (by simp; omega)])
  rw [this]
  rfl
theorem held_StringS {a : List ByteArray} {k : Int} (h1 : 1 ≤ k) (h2 : k + n_StringS a ≤ 1000000000) (h3 : z_StringS a ≤ 1000000000) : laws_heldStringS (m_StringS a k) k = some (k + n_StringS a) := by
  have hl : a.length ≤ 1000000000 := by unfold z_StringS at h3; omega
  unfold laws_heldStringS
  have := held_loop (body := fun (s' : Int × Int) => laws_heldStringS_l1 (m_StringS a k) s'.1 s'.2) (r := .inr) (fun _ => 1) (fun _ k => mT k) a k 1000000000 h1 h2 (fun q i x hi hlt hx hk hB => by
    have hi : (m_StringS a k)[i]? = some (mT q) := hi
    have hml : (m_StringS a k).length = a.length := mkL_len _ _ _ _
    show laws_heldStringS_l1 (m_StringS a k) q i = _
    unfold laws_heldStringS_l1
    rw [ifT (by rw [hml]; simpa using hlt)]
    simp (disch := omega) only [geti_nat, hi, Option.bind_some, markText_eq, wk64, bne_self_eq_false, BEq.rfl, Bool.not_true, Bool.false_eq_true, if_false, ltF]
    refine inl2 ?_ (by omega)
    rfl) (fun q => by
    have hml : (m_StringS a k).length = a.length := mkL_len _ _ _ _
    show laws_heldStringS_l1 (m_StringS a k) q a.length = _
    unfold laws_heldStringS_l1
    rw [ifF (by rw [hml]; simp)])
  rw [this]
  rfl
def z_IntS (a : List Int) : Nat := a.length
def n_IntS (a : List Int) : Nat := sumOf (fun _ => 1) a
noncomputable def m_IntS (a : List Int) (k : Int) : List Int := mkL (fun _ => 1) (fun _ k => k) a k
theorem eq_IntS {a : List Int} (h : z_IntS a ≤ 1000000000) : laws_eqIntS a a = some true := by
  have hl : a.length ≤ 1000000000 := by unfold z_IntS at h; omega
  unfold laws_eqIntS
  rw [ifF (by simp)]
  have := eq_loop (body := fun s' => laws_eqIntS_l1 a a s') (r := .inr ()) a.length (fun i hi => by
    unfold laws_eqIntS_l1
    rw [ifT (by simpa using hi), geti_nat, List.getElem?_eq_getElem hi, Option.bind_some, Option.bind_some]
    rw [ifF (by simp), wk64 (by omega) (by omega)]
    rfl) (by
    unfold laws_eqIntS_l1
    rw [ifF (by simp)])
  rw [this]
  rfl
theorem mark_IntS {a : List Int} {k : Int} (h1 : 1 ≤ k) (h2 : k + n_IntS a ≤ 1000000000) (h3 : z_IntS a ≤ 1000000000) : laws_markIntS a k = some (k + n_IntS a, m_IntS a k) := by
  have hl : a.length ≤ 1000000000 := by unfold z_IntS at h3; omega
  unfold laws_markIntS
  have := mark_loop (body := fun (s' : Int × Int × (List Int)) => laws_markIntS_l1 s'.1 s'.2.1 s'.2.2) (fun _ => 1) (fun _ k => k) a k 1000000000 h1 h2 (fun k i x l hi hx hl2 hk hB => by
    have hlt : i < l.length := (List.getElem?_eq_some_iff.1 hi).1
    show laws_markIntS_l1 k i l = _
    unfold laws_markIntS_l1
    rw [ifT (by simp; omega)]
    simp (disch := first | omega | (simp only; omega)) only [markText_eq, wk64, geti_nat, gset, hi, Option.bind_some, List.set_set, Int.toNat_natCast]
    refine inl3 ?_ (by omega) rfl
    rfl) (fun k l hl2 => by
    show laws_markIntS_l1 k a.length l = _
    unfold laws_markIntS_l1
    rw [ifF (by simp; omega)])
  rw [this]
  rfl
def z_IntSS (a : List (List Int)) : Nat := a.length + sumOf z_IntS a
def n_IntSS (a : List (List Int)) : Nat := sumOf n_IntS a
noncomputable def m_IntSS (a : List (List Int)) (k : Int) : List (List Int) := mkL n_IntS m_IntS a k
theorem eq_IntSS {a : List (List Int)} (h : z_IntSS a ≤ 1000000000) : laws_eqIntSS a a = some true := by
  have hl : a.length ≤ 1000000000 := by unfold z_IntSS at h; omega
  unfold laws_eqIntSS
  rw [ifF (by simp)]
  have := eq_loop (body := fun s' => laws_eqIntSS_l1 a a s') (r := .inr ()) a.length (fun i hi => by
    have hw : z_IntS a[i] ≤ 1000000000 := by have := sumOf_mem (w := z_IntS) (List.getElem_mem hi); unfold z_IntSS at h; omega
    unfold laws_eqIntSS_l1
    rw [ifT (by simpa using hi), geti_nat, List.getElem?_eq_getElem hi, Option.bind_some, Option.bind_some]
    rw [eq_IntS hw, Option.bind_some]
    rw [ifF (by simp), wk64 (by omega) (by omega)]
    rfl) (by
    unfold laws_eqIntSS_l1
    rw [ifF (by simp)])
  rw [this]
  rfl
theorem mark_IntSS {a : List (List Int)} {k : Int} (h1 : 1 ≤ k) (h2 : k + n_IntSS a ≤ 1000000000) (h3 : z_IntSS a ≤ 1000000000) : laws_markIntSS a k = some (k + n_IntSS a, m_IntSS a k) := by
  have hl : a.length ≤ 1000000000 := by unfold z_IntSS at h3; omega
  unfold laws_markIntSS
  have := mark_loop (body := fun (s' : Int × Int × (List (List Int))) => laws_markIntSS_l1 s'.1 s'.2.1 s'.2.2) n_IntS m_IntS a k 1000000000 h1 h2 (fun k i x l hi hx hl2 hk hB => by
    have hlt : i < l.length := (List.getElem?_eq_some_iff.1 hi).1
    have hz : z_IntS x ≤ 1000000000 := by have := sumOf_mem (w := z_IntS) hx; unfold z_IntSS at h3; omega
    show laws_markIntSS_l1 k i l = _
    unfold laws_markIntSS_l1
    rw [ifT (by simp; omega)]
    simp (disch := first | omega | (simp only; omega)) only [markText_eq, wk64, geti_nat, gset, hi, Option.bind_some, List.set_set, Int.toNat_natCast, mark_IntS]
    refine inl3 ?_ (by omega) rfl
    rfl) (fun k l hl2 => by
    show laws_markIntSS_l1 k a.length l = _
    unfold laws_markIntSS_l1
    rw [ifF (by simp; omega)])
  rw [this]
  rfl
def z_Body (a : T_impl_Body) : Nat := z_IntS a.Dels
def n_Body (a : T_impl_Body) : Nat := 1 + 1 + 1 + n_IntS a.Dels
noncomputable def m_Body (a : T_impl_Body) (k : Int) : T_impl_Body := ⟨mT (k), k + 1, k + 1 + 1, m_IntS a.Dels (k + 1 + 1 + 1)⟩
theorem eq_Body {a : T_impl_Body} (h : z_Body a ≤ 1000000000) : laws_eqBody a a = some true := by
  unfold z_Body at h
  unfold laws_eqBody
  simp only [eq_IntS (a := a.Dels) (by omega), Option.bind_some, Bool.not_true, Bool.false_eq_true, if_false, bne_self_eq_false, BEq.rfl]
def z_BodyS (a : List T_impl_Body) : Nat := a.length + sumOf z_Body a
def n_BodyS (a : List T_impl_Body) : Nat := sumOf n_Body a
noncomputable def m_BodyS (a : List T_impl_Body) (k : Int) : List T_impl_Body := mkL n_Body m_Body a k
theorem eq_BodyS {a : List T_impl_Body} (h : z_BodyS a ≤ 1000000000) : laws_eqBodyS a a = some true := by
  have hl : a.length ≤ 1000000000 := by unfold z_BodyS at h; omega
  unfold laws_eqBodyS
  rw [ifF (by simp)]
  have := eq_loop (body := fun s' => laws_eqBodyS_l1 a a s') (r := .inr ()) a.length (fun i hi => by
    have hw : z_Body a[i] ≤ 1000000000 := by have := sumOf_mem (w := z_Body) (List.getElem_mem hi); unfold z_BodyS at h; omega
    unfold laws_eqBodyS_l1
    rw [ifT (by simpa using hi), geti_nat, List.getElem?_eq_getElem hi, Option.bind_some, Option.bind_some]
    rw [eq_Body hw, Option.bind_some]
    rw [ifF (by simp), wk64 (by omega) (by omega)]
    rfl) (by
    unfold laws_eqBodyS_l1
    rw [ifF (by simp)])
  rw [this]
  rfl
theorem mark_BodyS {a : List T_impl_Body} {k : Int} (h1 : 1 ≤ k) (h2 : k + n_BodyS a ≤ 1000000000) (h3 : z_BodyS a ≤ 1000000000) : laws_markBodyS a k = some (k + n_BodyS a, m_BodyS a k) := by
  have hl : a.length ≤ 1000000000 := by unfold z_BodyS at h3; omega
  unfold laws_markBodyS
  have := mark_loop (body := fun (s' : Int × Int × (List T_impl_Body)) => laws_markBodyS_l1 s'.1 s'.2.1 s'.2.2) n_Body m_Body a k 1000000000 h1 h2 (fun k i x l hi hx hl2 hk hB => by
    have hlt : i < l.length := (List.getElem?_eq_some_iff.1 hi).1
    have hz : z_Body x ≤ 1000000000 := by have := sumOf_mem (w := z_Body) hx; unfold z_BodyS at h3; omega
    unfold z_Body at hz
    simp only [n_Body, Int.natCast_add, Int.natCast_one, Int.cast_ofNat_Int] at hB
    show laws_markBodyS_l1 k i l = _
    unfold laws_markBodyS_l1
    rw [ifT (by simp; omega)]
    simp (disch := first | omega | (simp only; omega)) only [markText_eq, wk64, geti_nat, gset, hi, Option.bind_some, List.set_set, Int.toNat_natCast, mark_IntS]
    refine inl3 ?_ (by omega) rfl
    simp only [n_Body, Int.natCast_add, Int.natCast_one]; omega) (fun k l hl2 => by
    show laws_markBodyS_l1 k a.length l = _
    unfold laws_markBodyS_l1
    rw [ifF (by simp; omega)])
  rw [this]
  rfl
def z_Weave (a : T_impl_Weave) : Nat := z_IntSS a.Parents + z_BodyS a.Bodies
def n_Weave (a : T_impl_Weave) : Nat := n_IntSS a.Parents + n_BodyS a.Bodies
noncomputable def m_Weave (a : T_impl_Weave) (k : Int) : T_impl_Weave := ⟨m_IntSS a.Parents (k), m_BodyS a.Bodies (k + (n_IntSS a.Parents : Int))⟩
theorem eq_Weave {a : T_impl_Weave} (h : z_Weave a ≤ 1000000000) : laws_eqWeave a a = some true := by
  unfold z_Weave at h
  unfold laws_eqWeave
  simp only [eq_IntSS (a := a.Parents) (by omega), eq_BodyS (a := a.Bodies) (by omega), Option.bind_some, Bool.not_true, Bool.false_eq_true, if_false, bne_self_eq_false, BEq.rfl]
theorem mark_Weave {a : T_impl_Weave} {k : Int} (h1 : 1 ≤ k) (h2 : k + n_Weave a ≤ 1000000000) (h3 : z_Weave a ≤ 1000000000) : laws_markWeave a k = some (k + n_Weave a) := by
  unfold z_Weave at h3
  simp only [n_Weave, Int.natCast_add, Int.natCast_one] at h2 ⊢
  unfold laws_markWeave
  simp (disch := omega) only [mark_IntSS, mark_BodyS, Option.bind_some]
  congr 1
  omega
theorem zc_IntS (a : List Int) : z_IntS (c_IntS a) ≤ w_IntS a := by
  unfold z_IntS c_IntS w_IntS
  omega
theorem nc_IntS (a : List Int) : n_IntS (c_IntS a) ≤ 8 * w_IntS a := by
  unfold n_IntS c_IntS w_IntS
  rw [sumK1]
  omega
theorem cm_IntSS (a : List (List Int)) : c_IntSS a = a.map c_IntS := by unfold c_IntSS; exact ((List.map_congr_left (fun x _ => rfl)).trans (List.map_id' a)).symm
theorem zc_IntSS (a : List (List Int)) : z_IntSS (c_IntSS a) ≤ w_IntSS a := by
  rw [cm_IntSS]
  unfold z_IntSS w_IntSS
  have := sumOf_map (w := z_IntS) (f := c_IntS) (v := w_IntS) a (fun x _ => zc_IntS x)
  rw [List.length_map]
  omega
theorem nc_IntSS (a : List (List Int)) : n_IntSS (c_IntSS a) ≤ 8 * w_IntSS a := by
  rw [cm_IntSS]
  unfold n_IntSS w_IntSS
  have := sumOf_map8 (w := n_IntS) (f := c_IntS) (v := w_IntS) a (fun x _ => Nat.le_trans (nc_IntS x) (by omega))
  omega
theorem zc_Body (a : T_laws_Body) : z_Body (c_Body a) ≤ w_Body a := by
  have : z_IntS (a.Dels) ≤ w_IntS a.Dels := zc_IntS a.Dels
  show z_IntS (a.Dels) ≤ _
  unfold w_Body
  omega
theorem nc_Body (a : T_laws_Body) : n_Body (c_Body a) ≤ 8 * w_Body a + 8 := by
  have : n_IntS (a.Dels) ≤ 8 * w_IntS a.Dels := nc_IntS a.Dels
  show 1 + 1 + 1 + n_IntS (a.Dels) ≤ _
  unfold w_Body
  omega
theorem cm_BodyS (a : List T_laws_Body) : c_BodyS a = a.map c_Body := rfl
theorem zc_BodyS (a : List T_laws_Body) : z_BodyS (c_BodyS a) ≤ w_BodyS a := by
  rw [cm_BodyS]
  unfold z_BodyS w_BodyS
  have := sumOf_map (w := z_Body) (f := c_Body) (v := w_Body) a (fun x _ => zc_Body x)
  rw [List.length_map]
  omega
theorem nc_BodyS (a : List T_laws_Body) : n_BodyS (c_BodyS a) ≤ 8 * w_BodyS a := by
  rw [cm_BodyS]
  unfold n_BodyS w_BodyS
  have := sumOf_map8 (w := n_Body) (f := c_Body) (v := w_Body) a (fun x _ => nc_Body x)
  omega
theorem zc_Weave (a : T_laws_Weave) : z_Weave (c_Weave a) ≤ w_Weave a := by
  have : z_IntSS (a.Parents) ≤ w_IntSS a.Parents := zc_IntSS a.Parents
  have : z_BodyS (c_BodyS a.Bodies) ≤ w_BodyS a.Bodies := zc_BodyS a.Bodies
  show z_IntSS (a.Parents) + z_BodyS (c_BodyS a.Bodies) ≤ _
  unfold w_Weave
  omega
theorem nc_Weave (a : T_laws_Weave) : n_Weave (c_Weave a) ≤ 8 * w_Weave a + 8 := by
  have : n_IntSS (a.Parents) ≤ 8 * w_IntSS a.Parents := nc_IntSS a.Parents
  have : n_BodyS (c_BodyS a.Bodies) ≤ 8 * w_BodyS a.Bodies := nc_BodyS a.Bodies
  show n_IntSS (a.Parents) + n_BodyS (c_BodyS a.Bodies) ≤ _
  unfold w_Weave
  omega
end Go.TV.F
/- Plain Lean: the laws FnExactBlend, FnExactPickOn, FnExactUndoOn. -/
namespace Go.TV.F
open Go.TV
theorem sumOf_memK {α : Type} {w : α → Nat} {l : List α} {x : α} (h : x ∈ l) : w x ≤ sumOf w l := sumOf_mem h
theorem wsm_c {a : T_laws_Weave} (h : w_Weave a ≤ 1048576) : WSm (c_Weave a) := by
  have hp : w_IntSS a.Parents + w_BodyS a.Bodies ≤ 1048576 := h
  have hb : ∀ b ∈ (c_Weave a).Bodies, ∃ x ∈ a.Bodies, b = c_Body x := fun b hb => by
    have : b ∈ a.Bodies.map c_Body := by
      have e : (c_Weave a).Bodies = a.Bodies.map c_Body := cm_BodyS a.Bodies
      rw [← e]
      exact hb
    obtain ⟨x, h1, h2⟩ := List.mem_map.1 this
    exact ⟨x, h1, h2.symm⟩
  have hx : ∀ x ∈ a.Bodies, w_Body x ≤ 1048576 := fun x hx => by
    have := sumOf_mem (w := w_Body) hx
    unfold w_BodyS at hp
    omega
  refine ⟨?_, ⟨?_, fun b hm => ?_⟩, fun b hm => ?_⟩
  · show a.Parents.length ≤ _
    unfold w_IntSS at hp
    omega
  · have e : (c_Weave a).Bodies = a.Bodies.map c_Body := cm_BodyS a.Bodies
    rw [e, List.length_map]
    unfold w_BodyS at hp
    omega
  · obtain ⟨x, h1, rfl⟩ := hb b hm
    have := hx x h1
    show x.Dels.length ≤ _
    unfold w_Body w_IntS at this
    omega
  · obtain ⟨x, h1, rfl⟩ := hb b hm
    have := hx x h1
    show x.Line.size ≤ _
    unfold w_Body at this
    omega
/-- Few enough lines. -/
theorem str_small {l : List ByteArray} (h : l.length ≤ 1000) : z_StringS l ≤ 1000000000 ∧ (n_StringS l : Int) ≤ 1000 := by
  unfold z_StringS n_StringS
  rw [sumK1]
  omega
theorem blendR_len (w : T_impl_Weave) (l : List Int) : (blendR w l).1.length ≤ 1000 := by
  unfold blendR
  split
  · split
    · split
      · rename_i h
        simp only
        omega
      · simp
    · simp
  · simp
theorem pickR_len {w : T_impl_Weave} (h : w.Bodies.length ≤ 300) (t m : T_impl_Body → Bool) : (pickR t m w).1.length ≤ 1000 := by
  unfold pickR
  simp only [List.length_map]
  have := List.length_filter_le t w.Bodies
  omega
theorem pickOnR_len (w : T_impl_Weave) (a v : Int) : (pickOnR w a v).1.length ≤ 1000 := by
  unfold pickOnR
  split
  · rename_i q
    exact pickR_len (wOk_g (codeR_0 q).1).2 (pickT (clo w.Parents a.toNat) v) (pickM (clo w.Parents a.toNat) v)
  · simp
theorem undoOnR_len (w : T_impl_Weave) (a v : Int) : (undoOnR w a v).1.length ≤ 1000 := by
  unfold undoOnR
  split
  · rename_i q
    exact pickR_len (wOk_g (codeR_0 q).1).2 (undoT (clo w.Parents a.toNat) v) (undoM (clo w.Parents a.toNat) v)
  · simp
theorem blend_law {aW : T_laws_Weave} {aList : List Int} (h0 : sm_Weave aW) : laws_FnExactBlend aW aList = some true := by
  unfold laws_FnExactBlend
  by_cases q : aList.length > 1048576
  · rw [ifT (decide_eq_true (by omega))]
  rw [ifF (decide_eq_false (by omega))]
  have hsz : laws_szWeave (T_laws_Weave.mk aW.Parents aW.Bodies) 1048576 = _ := sz_Weave (a := aW) (ok_of_Weave h0) (by decide) (by decide)
  rw [hsz, Option.bind_some]
  by_cases q2 : (w_Weave aW : Int) ≤ 1048576
  · rw [if_pos q2, ifF (decide_eq_false (by omega))]
    have hz := zc_Weave aW
    have hn := nc_Weave aW
    have hto : laws_toWeave (T_laws_Weave.mk aW.Parents aW.Bodies) = some (c_Weave aW) := to_Weave (a := aW) (by omega)
    have hti : laws_toIntS aList = some (c_IntS aList) := to_IntS (by unfold w_IntS; omega)
    have hlen : (c_IntS aList).length ≤ 1000000000 := by unfold c_IntS; omega
    have hS : spec_Blend (T_impl_Weave.mk (c_Weave aW).Parents (c_Weave aW).Bodies) (c_IntS aList) = _ := blendS (wsm_c (a := aW) (by omega)) hlen
    have hI : impl_Blend (T_impl_Weave.mk (c_Weave aW).Parents (c_Weave aW).Bodies) (c_IntS aList) = _ := blendI (wsm_c (a := aW) (by omega)) hlen
    have heW : laws_eqWeave (T_impl_Weave.mk (c_Weave aW).Parents (c_Weave aW).Bodies) (T_impl_Weave.mk (c_Weave aW).Parents (c_Weave aW).Bodies) = some true := eq_Weave (a := c_Weave aW) (by omega)
    have heI : laws_eqIntS (c_IntS aList) (c_IntS aList) = some true := eq_IntS (by unfold z_IntS; omega)
    have hni : (n_IntS (c_IntS aList) : Int) ≤ 1000000 * 2 := by unfold n_IntS c_IntS; rw [sumK1]; omega
    have hmW : laws_markWeave (T_impl_Weave.mk (c_Weave aW).Parents (c_Weave aW).Bodies) 1 = some ((1 : Int) + (n_Weave (c_Weave aW) : Int)) := mark_Weave (a := c_Weave aW) (by omega) (by omega) (by omega)
    have hmI := mark_IntS (a := c_IntS aList) (k := 1 + n_Weave (c_Weave aW)) (by omega) (by omega) (by unfold z_IntS; omega)
    generalize hr : blendR (T_impl_Weave.mk (c_Weave aW).Parents (c_Weave aW).Bodies) (c_IntS aList) = r at hS hI
    have hrl : r.1.length ≤ 1000 := by rw [← hr]; exact blendR_len _ _
    obtain ⟨g1, g2⟩ := str_small hrl
    have heS : laws_eqStringS r.1 r.1 = some true := eq_StringS g1
    have hmS := mark_StringS (a := r.1) (k := 1) (by omega) (by omega) g1
    have hhS := held_StringS (a := r.1) (k := 1) (by omega) (by omega) g1
    have d1 : decide ((1 : Int) + n_Weave (c_Weave aW) + n_IntS (c_IntS aList) < 0) = false := decide_eq_false (by omega)
    have d2 : decide ((1 : Int) + n_StringS r.1 < 0) = false := decide_eq_false (by omega)
    simp only [hto, hti, hS, hI, heW, heI, hmW, hmI, heS, hmS, hhS, d1, d2, Option.bind_some, Bool.not_true, Bool.false_eq_true, if_false, bne_self_eq_false]
  · rw [if_neg q2, ifT (decide_eq_true (by omega))]
theorem pickOn_law {aW : T_laws_Weave} {aOnto aV : Int} (h0 : sm_Weave aW) : laws_FnExactPickOn aW aOnto aV = some true := by
  unfold laws_FnExactPickOn
  have hsz : laws_szWeave (T_laws_Weave.mk aW.Parents aW.Bodies) 1048576 = _ := sz_Weave (a := aW) (ok_of_Weave h0) (by decide) (by decide)
  rw [hsz, Option.bind_some]
  by_cases q2 : (w_Weave aW : Int) ≤ 1048576
  · rw [if_pos q2, ifF (decide_eq_false (by omega))]
    have hz := zc_Weave aW
    have hn := nc_Weave aW
    have hto : laws_toWeave (T_laws_Weave.mk aW.Parents aW.Bodies) = some (c_Weave aW) := to_Weave (a := aW) (by omega)
    have hS : spec_PickOn (T_impl_Weave.mk (c_Weave aW).Parents (c_Weave aW).Bodies) aOnto aV = _ := pickOnS (wsm_c (a := aW) (by omega)) _ _
    have hI : impl_PickOn (T_impl_Weave.mk (c_Weave aW).Parents (c_Weave aW).Bodies) aOnto aV = _ := pickOnI (wsm_c (a := aW) (by omega)) _ _
    have heW : laws_eqWeave (T_impl_Weave.mk (c_Weave aW).Parents (c_Weave aW).Bodies) (T_impl_Weave.mk (c_Weave aW).Parents (c_Weave aW).Bodies) = some true := eq_Weave (a := c_Weave aW) (by omega)
    have hmW : laws_markWeave (T_impl_Weave.mk (c_Weave aW).Parents (c_Weave aW).Bodies) 1 = some ((1 : Int) + (n_Weave (c_Weave aW) : Int)) := mark_Weave (a := c_Weave aW) (by omega) (by omega) (by omega)
    generalize hr : pickOnR (T_impl_Weave.mk (c_Weave aW).Parents (c_Weave aW).Bodies) aOnto aV = r at hS hI
    have hrl : r.1.length ≤ 1000 := by rw [← hr]; exact pickOnR_len _ _ _
    obtain ⟨g1, g2⟩ := str_small hrl
    have heS : laws_eqStringS r.1 r.1 = some true := eq_StringS g1
    have hmS := mark_StringS (a := r.1) (k := 1) (by omega) (by omega) g1
    have hhS := held_StringS (a := r.1) (k := 1) (by omega) (by omega) g1
    have d1 : decide ((1 : Int) + n_Weave (c_Weave aW) < 0) = false := decide_eq_false (by omega)
    have d2 : decide ((1 : Int) + n_StringS r.1 < 0) = false := decide_eq_false (by omega)
    simp only [hto, hS, hI, heW, hmW, heS, hmS, hhS, d1, d2, Option.bind_some, Bool.not_true, Bool.false_eq_true, if_false, bne_self_eq_false]
  · rw [if_neg q2, ifT (decide_eq_true (by omega))]
theorem undoOn_law {aW : T_laws_Weave} {aOnto aV : Int} (h0 : sm_Weave aW) : laws_FnExactUndoOn aW aOnto aV = some true := by
  unfold laws_FnExactUndoOn
  have hsz : laws_szWeave (T_laws_Weave.mk aW.Parents aW.Bodies) 1048576 = _ := sz_Weave (a := aW) (ok_of_Weave h0) (by decide) (by decide)
  rw [hsz, Option.bind_some]
  by_cases q2 : (w_Weave aW : Int) ≤ 1048576
  · rw [if_pos q2, ifF (decide_eq_false (by omega))]
    have hz := zc_Weave aW
    have hn := nc_Weave aW
    have hto : laws_toWeave (T_laws_Weave.mk aW.Parents aW.Bodies) = some (c_Weave aW) := to_Weave (a := aW) (by omega)
    have hS : spec_UndoOn (T_impl_Weave.mk (c_Weave aW).Parents (c_Weave aW).Bodies) aOnto aV = _ := undoOnS (wsm_c (a := aW) (by omega)) _ _
    have hI : impl_UndoOn (T_impl_Weave.mk (c_Weave aW).Parents (c_Weave aW).Bodies) aOnto aV = _ := undoOnI (wsm_c (a := aW) (by omega)) _ _
    have heW : laws_eqWeave (T_impl_Weave.mk (c_Weave aW).Parents (c_Weave aW).Bodies) (T_impl_Weave.mk (c_Weave aW).Parents (c_Weave aW).Bodies) = some true := eq_Weave (a := c_Weave aW) (by omega)
    have hmW : laws_markWeave (T_impl_Weave.mk (c_Weave aW).Parents (c_Weave aW).Bodies) 1 = some ((1 : Int) + (n_Weave (c_Weave aW) : Int)) := mark_Weave (a := c_Weave aW) (by omega) (by omega) (by omega)
    generalize hr : undoOnR (T_impl_Weave.mk (c_Weave aW).Parents (c_Weave aW).Bodies) aOnto aV = r at hS hI
    have hrl : r.1.length ≤ 1000 := by rw [← hr]; exact undoOnR_len _ _ _
    obtain ⟨g1, g2⟩ := str_small hrl
    have heS : laws_eqStringS r.1 r.1 = some true := eq_StringS g1
    have hmS := mark_StringS (a := r.1) (k := 1) (by omega) (by omega) g1
    have hhS := held_StringS (a := r.1) (k := 1) (by omega) (by omega) g1
    have d1 : decide ((1 : Int) + n_Weave (c_Weave aW) < 0) = false := decide_eq_false (by omega)
    have d2 : decide ((1 : Int) + n_StringS r.1 < 0) = false := decide_eq_false (by omega)
    simp only [hto, hS, hI, heW, hmW, heS, hmS, hhS, d1, d2, Option.bind_some, Bool.not_true, Bool.false_eq_true, if_false, bne_self_eq_false]
  · rw [if_neg q2, ifT (decide_eq_true (by omega))]
end Go.TV.F
