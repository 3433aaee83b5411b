/- The plain laws. -/
import Derived.Test.YthfhiepgdeghpaaDoorKFnExactReadIntentT4
import Derived.Laws.BitsLemmas
import Derived.Test.YthfhiepgdeghpaaDoorKFnExactReadIntentD
set_option linter.unusedVariables false
set_option linter.unusedSimpArgs false
set_option maxHeartbeats 8000000
set_option maxRecDepth 100000
/- Plain Lean: loops and small steps. -/
namespace Go.TV.F
open Go.TV

theorem wk64 {x : Int} (h1 : -9223372036854775808 ≤ x) (h2 : x < 9223372036854775808) : wk .i64 x = x := by
  simp only [wk, IntKind.wrap, IntKind.bits, IntKind.signed, Bool.true_and, decide_eq_true_eq, Nat.reduceSub, Int.reducePow]
  split
  · rename_i h; simp at h; omega
  · rename_i h; simp at h; omega
theorem wku64 {x : Int} (h1 : 0 ≤ x) (h2 : x < 18446744073709551616) : wk .u64 x = x := by
  simp only [wk, IntKind.wrap, IntKind.bits, IntKind.signed, Bool.true_and, Bool.false_and, decide_eq_true_eq, Bool.false_eq_true, if_false, Nat.reduceSub, Int.reducePow]
  first | omega | (split <;> omega)
theorem wku32 {x : Int} (h1 : 0 ≤ x) (h2 : x < 4294967296) : wk .u32 x = x := by
  simp only [wk, IntKind.wrap, IntKind.bits, IntKind.signed, Bool.true_and, Bool.false_and, decide_eq_true_eq, Bool.false_eq_true, if_false, Nat.reduceSub, Int.reducePow]
  first | omega | (split <;> omega)
theorem wku8 {x : Int} (h1 : 0 ≤ x) (h2 : x < 256) : wk .u8 x = x := by
  simp only [wk, IntKind.wrap, IntKind.bits, IntKind.signed, Bool.true_and, Bool.false_and, decide_eq_true_eq, Bool.false_eq_true, if_false, Nat.reduceSub, Int.reducePow]
  first | omega | (split <;> omega)
theorem wku32_mod (x : Int) : wk .u32 x = x % 4294967296 := by
  simp only [wk, IntKind.wrap, IntKind.bits, IntKind.signed, Bool.false_and, Bool.false_eq_true, if_false, Int.reducePow]
theorem wku8_mod (x : Int) : wk .u8 x = x % 256 := by
  simp only [wk, IntKind.wrap, IntKind.bits, IntKind.signed, Bool.false_and, Bool.false_eq_true, if_false, Int.reducePow]
theorem wku64_mod (x : Int) : wk .u64 x = x % 18446744073709551616 := by
  simp only [wk, IntKind.wrap, IntKind.bits, IntKind.signed, Bool.false_and, Bool.false_eq_true, if_false, Int.reducePow]
theorem geti_nat {α : Type} (l : List α) (k : Nat) : geti l (k : Int) = l[k]? := by
  unfold geti
  rw [if_neg (by omega), Int.toNat_natCast]
theorem geti_in {α : Type} {l : List α} {i : Int} (h1 : 0 ≤ i) (h2 : i < l.length) : geti l i = some (l[i.toNat]'(by omega)) := by
  unfold geti
  rw [if_neg (by omega), List.getElem?_eq_getElem]
theorem mkl_in {α : Type} {n : Int} {z : α} (h1 : 0 ≤ n) (h2 : n ≤ 1099511627776) : mkl n n z = some (List.replicate n.toNat z) := by
  unfold mkl
  rw [if_pos ⟨h1, Int.le_refl _, h2⟩]
theorem appn_in {α : Type} {l m : List α} (h : l.length + m.length ≤ 549755813888) : appn l m = some (l ++ m) := by
  unfold appn
  rw [if_pos h]
theorem sapp_in {s t : ByteArray} (h : s.size + t.size ≤ 4611686018427387904) : sapp s t = some (s ++ t) := by
  unfold sapp
  rw [if_pos h]
theorem chk_in {p : Prop} [Decidable p] (h : p) : chk p = some () := by
  unfold chk
  rw [if_pos h]
/-- A loop that goes through known states. -/
theorem loopM_at {σ ρ : Type} {body : σ → Option (σ ⊕ ρ)} {r : ρ} (f : Nat → σ) (n : Nat) (hs : ∀ k, k < n → body (f k) = some (.inl (f (k + 1)))) (he : body (f n) = some (.inr r)) : loopM body (f 0) = some r := by
  have key : ∀ m k, k + m = n → loopM body (f k) = some r := by
    intro m
    induction m with
    | zero => intro k hk; rw [Nat.add_zero] at hk; subst hk; rw [loopM_eq, he]; rfl
    | succ m ih => intro k hk; rw [loopM_eq, hs k (by omega)]; exact ih (k + 1) (by omega)
  exact key n 0 (by omega)
/-- A loop that looks at all, and leaves at the first bad one. -/
theorem loopM_all {σ ρ : Type} {body : σ → Option (σ ⊕ ρ)} {good bad : ρ} (f : Nat → σ) (n : Nat) (p : Nat → Bool) (hs : ∀ k, k < n → (∀ j, j < k → p j = true) → p k = true → body (f k) = some (.inl (f (k + 1))))
    (hb : ∀ k, k < n → (∀ j, j < k → p j = true) → p k = false → body (f k) = some (.inr bad)) (he : (∀ j, j < n → p j = true) → body (f n) = some (.inr good)) : loopM body (f 0) = some (if (List.range n).all p = true then good else bad) := by
  have key : ∀ m k, k + m = n → (∀ j, j < k → p j = true) → loopM body (f k) = some (if (List.range n).all p = true then good else bad) := by
    intro m
    induction m with
    | zero =>
      intro k hk hp
      rw [Nat.add_zero] at hk
      subst hk
      rw [loopM_eq, he hp, if_pos (by simpa using hp)]
      rfl
    | succ m ih =>
      intro k hk hp
      rw [loopM_eq]
      cases q : p k with
      | true =>
        rw [hs k (by omega) hp q]
        refine ih (k + 1) (by omega) (fun j hj => ?_)
        rcases Nat.lt_succ_iff_lt_or_eq.1 hj with h | rfl
        · exact hp j h
        · exact q
      | false =>
        rw [hb k (by omega) hp q, if_neg]
        · rfl
        · intro hq
          have := List.all_eq_true.1 hq k (List.mem_range.2 (by omega))
          rw [q] at this
          cases this
  exact key n 0 (by omega) (fun j hj => by omega)
end Go.TV.F
/- Plain Lean: the loops of the laws' own helpers. -/
namespace Go.TV.F
open Go.TV

def sumOf {α : Type} (w : α → Nat) : List α → Nat
  | [] => 0
  | x :: l => w x + sumOf w l
theorem sumOf_mem {α : Type} {w : α → Nat} {l : List α} {x : α} (h : x ∈ l) : w x ≤ sumOf w l := by
  induction l with
  | nil => cases h
  | cons y l ih =>
    rcases List.mem_cons.1 h with rfl | h
    · simp [sumOf]
    · have := ih h
      simp [sumOf]
      omega
/-- A copy. -/
theorem to_loop {α β : Type} {body : Int × List β → Option ((Int × List β) ⊕ List β)} (a : List α) (f : α → β) (z : β) (hs : ∀ (i : Nat) (x : α) (out : List β), a[i]? = some x → out.length = a.length → body ((i : Int), out) = some (.inl (((i + 1 : Nat) : Int), out.set i (f x))))
    (he : ∀ out : List β, out.length = a.length → body ((a.length : Int), out) = some (.inr out)) : loopM body ((0 : Int), List.replicate a.length z) = some (a.map f) := by
  have key : ∀ (l pre : List α), a = pre ++ l → loopM body ((pre.length : Int), pre.map f ++ List.replicate l.length z) = some (a.map f) := by
    intro l
    induction l with
    | nil =>
      intro pre h
      rw [List.append_nil] at h
      subst h
      rw [loopM_eq, he _ (by simp)]
      simp
    | cons x l ih =>
      intro pre h
      rw [loopM_eq, hs pre.length x _ (by rw [h]; simp) (by rw [h]; simp)]
      have := ih (pre ++ [x]) (by rw [h]; simp)
      rw [List.length_append, List.map_append] at this
      have e : (List.map f pre ++ List.replicate (x :: l).length z).set pre.length (f x) = List.map f pre ++ List.map f [x] ++ List.replicate l.length z := by
        rw [List.set_append_right _ _ (by simp)]
        simp [List.replicate_succ]
      rw [e]
      exact this
  exact key a [] rfl
/-- Alike with itself. -/
theorem eq_loop {ρ : Type} {body : Int → Option (Int ⊕ ρ)} {r : ρ} (n : Nat) (hs : ∀ i : Nat, i < n → body (i : Int) = some (.inl ((i + 1 : Nat) : Int))) (he : body (n : Int) = some (.inr r)) : loopM body 0 = some r :=
  loopM_at (fun k => (k : Int)) n hs he
/-- What marks make of a list. -/
def mkL {α : Type} (c : α → Nat) (mk : α → Int → α) : List α → Int → List α
  | [], _ => []
  | x :: l, k => mk x k :: mkL c mk l (k + c x)
theorem mkL_len {α : Type} (c : α → Nat) (mk : α → Int → α) : ∀ (l : List α) (k : Int), (mkL c mk l k).length = l.length
  | [], _ => rfl
  | x :: l, k => by simp [mkL, mkL_len c mk l]
theorem mark_loop {α : Type} {body : Int × Int × List α → Option ((Int × Int × List α) ⊕ (Int × List α))} (c : α → Nat) (mk : α → Int → α) (a : List α) (k0 B : Int) (h1 : 1 ≤ k0) (hB : k0 + sumOf c a ≤ B)
    (hs : ∀ (k : Int) (i : Nat) (x : α) (l : List α), l[i]? = some x → x ∈ a → l.length = a.length → 1 ≤ k → k + c x ≤ B → body (k, (i : Int), l) = some (.inl (k + c x, ((i + 1 : Nat) : Int), l.set i (mk x k))))
    (he : ∀ (k : Int) (l : List α), l.length = a.length → body (k, (a.length : Int), l) = some (.inr (k, l))) : loopM body (k0, (0 : Int), a) = some (k0 + sumOf c a, mkL c mk a k0) := by
  have key : ∀ (l pre : List α) (k : Int), (∀ x ∈ l, x ∈ a) → pre.length + l.length = a.length → 1 ≤ k → k + sumOf c l ≤ B → loopM body (k, (pre.length : Int), pre ++ l) = some (k + sumOf c l, pre ++ mkL c mk l k) := by
    intro l
    induction l with
    | nil =>
      intro pre k _ hl h1 hB
      rw [loopM_eq, show (pre.length : Int) = (a.length : Int) by simp at hl; omega, he _ _ (by simpa using hl)]
      simp [sumOf, mkL]
    | cons x l ih =>
      intro pre k hm hl h1 hB
      simp only [sumOf] at hB
      rw [loopM_eq, hs k pre.length x _ (by simp) (hm x (by simp)) (by simpa using hl) h1 (by omega)]
      have := ih (pre ++ [mk x k]) (k + c x) (fun y hy => hm y (by simp [hy])) (by simp at hl ⊢; omega) (by omega) (by omega)
      have e : (pre ++ x :: l).set pre.length (mk x k) = pre ++ [mk x k] ++ l := by
        rw [List.set_append_right _ _ (by simp)]
        simp
      rw [e]
      rw [List.length_append] at this
      refine this.trans ?_
      simp only [sumOf, mkL, List.append_assoc, List.cons_append, List.nil_append, Option.some.injEq, Prod.mk.injEq, and_true]
      omega
  exact key a [] k0 (fun _ h => h) (by simp) h1 hB
theorem held_loop {α : Type} {ρ : Type} {body : Int × Int → Option ((Int × Int) ⊕ ρ)} {r : Int → ρ} (c : α → Nat) (mk : α → Int → α) (a : List α) (k0 B : Int) (h1 : 1 ≤ k0) (hB : k0 + sumOf c a ≤ B)
    (hs : ∀ (k : Int) (i : Nat) (x : α), (mkL c mk a k0)[i]? = some (mk x k) → i < a.length → x ∈ a → 1 ≤ k → k + c x ≤ B → body (k, (i : Int)) = some (.inl (k + c x, ((i + 1 : Nat) : Int))))
    (he : ∀ (k : Int), body (k, (a.length : Int)) = some (.inr (r k))) : loopM body (k0, (0 : Int)) = some (r (k0 + sumOf c a)) := by
  have key : ∀ (l : List α) (pre : List α) (k : Int), (∀ x ∈ l, x ∈ a) → mkL c mk a k0 = pre ++ mkL c mk l k → pre.length + l.length = a.length → 1 ≤ k → k + sumOf c l ≤ B → loopM body (k, (pre.length : Int)) = some (r (k + sumOf c l)) := by
    intro l
    induction l with
    | nil =>
      intro pre k _ _ hl h1 hB
      rw [loopM_eq, show (pre.length : Int) = (a.length : Int) by simp at hl; omega, he]
      simp [sumOf]
    | cons x l ih =>
      intro pre k hm hp hl h1 hB
      simp only [sumOf] at hB
      rw [loopM_eq, hs k pre.length x (by rw [hp]; simp [mkL]) (by simp at hl; omega) (hm x (by simp)) h1 (by omega)]
      have := ih (pre ++ [mk x k]) (k + c x) (fun y hy => hm y (by simp [hy])) (by rw [hp]; simp [mkL]) (by simp at hl ⊢; omega) (by omega) (by omega)
      rw [List.length_append] at this
      refine this.trans ?_
      simp only [sumOf, Option.some.injEq]
      congr 1
      omega
  exact key a [] k0 (fun _ h => h) rfl (by simp) h1 hB
/-- How much there is. -/
theorem sz_loop {α : Type} {body : Int × Int → Option ((Int × Int) ⊕ (Int ⊕ Int))} (w : α → Nat) (a : List α) (left : Int) (h0 : 0 ≤ left)
    (hs : ∀ (s : Int) (i : Nat) (x : α), a[i]? = some x → 0 ≤ s → s ≤ left → body (s, (i : Int)) = if (w x : Int) ≤ s then some (.inl (s - w x, ((i + 1 : Nat) : Int))) else some (.inr (.inl (-1))))
    (he : ∀ (s : Int), body (s, (a.length : Int)) = some (.inr (.inr s))) : loopM body (left, (0 : Int)) = some (if (sumOf w a : Int) ≤ left then .inr (left - sumOf w a) else .inl (-1)) := by
  have key : ∀ (l : List α) (pre : List α) (s : Int), a = pre ++ l → 0 ≤ s → s ≤ left → loopM body (s, (pre.length : Int)) = some (if (sumOf w l : Int) ≤ s then .inr (s - sumOf w l) else .inl (-1)) := by
    intro l
    induction l with
    | nil =>
      intro pre s h h1 h2
      rw [List.append_nil] at h
      rw [loopM_eq, ← h, he]
      simp [sumOf, h1]
    | cons x l ih =>
      intro pre s h h1 h2
      rw [loopM_eq, hs s pre.length x (by rw [h]; simp) h1 h2]
      have e : ((sumOf w (x :: l) : Nat) : Int) = w x + sumOf w l := by simp [sumOf]
      by_cases q : (w x : Int) ≤ s
      · rw [if_pos q]
        have := ih (pre ++ [x]) (s - w x) (by rw [h]; simp) (by omega) (by omega)
        rw [List.length_append] at this
        refine this.trans ?_
        by_cases q2 : (sumOf w l : Int) ≤ s - w x
        · rw [if_pos q2, if_pos (by omega)]
          congr 2
          omega
        · rw [if_neg q2, if_neg (by omega)]
      · rw [if_neg q]
        rw [if_neg (by omega)]
        rfl
  exact key a [] left rfl h0 (Int.le_refl _)
end Go.TV.F
/- Plain Lean: graphs of versions. -/
namespace Go.TV.F
open Go.TV

/-! ### Right graphs -/
def riseAt (l : List Int) (n : Int) (i : Nat) : Bool := decide (l.getD i 0 ≥ 0) && decide (l.getD i 0 ≤ n - 1) && (i == 0 || decide (l.getD (i - 1) 0 < l.getD i 0))
def rise (l : List Int) (n : Int) : Bool := (List.range l.length).all (riseAt l n)
def gAt (g : List (List Int)) (v : Nat) : Bool := decide ((g.getD v []).length ≤ 4) && rise (g.getD v []) v
def gOk (g : List (List Int)) : Bool := decide (g.length ≤ 40) && (List.range g.length).all (gAt g)
theorem gOk_len {g : List (List Int)} (h : gOk g = true) : g.length ≤ 40 := by
  simp only [gOk, Bool.and_eq_true, decide_eq_true_eq] at h
  exact h.1
theorem gOk_at {g : List (List Int)} (hg : gOk g = true) {v : Nat} (hv : v < g.length) : g[v].length ≤ 4 ∧ rise g[v] v = true := by
  simp only [gOk, Bool.and_eq_true] at hg
  have h1 := List.all_eq_true.1 hg.2 v (List.mem_range.2 hv)
  have : g.getD v [] = g[v] := by simp [hv]
  simp only [gAt, this, Bool.and_eq_true, decide_eq_true_eq] at h1
  exact h1
theorem rise_mem {l : List Int} {n : Int} (h : rise l n = true) {x : Int} (hx : x ∈ l) : 0 ≤ x ∧ x ≤ n - 1 := by
  obtain ⟨i, hi, rfl⟩ := List.getElem_of_mem hx
  have := List.all_eq_true.1 h i (List.mem_range.2 hi)
  have e : l.getD i 0 = l[i] := by simp [hi]
  simp only [riseAt, e, Bool.and_eq_true, decide_eq_true_eq] at this
  exact this.1
theorem gOk_mem {g : List (List Int)} (hg : gOk g = true) {v : Nat} (hv : v < g.length) {x : Int} (hx : x ∈ g[v]) : 0 ≤ x ∧ x < v := by
  have := rise_mem (gOk_at hg hv).2 hx
  omega

/-! ### Sets as bits -/
def orL (c : List Nat) (l : List Int) : Nat := l.foldl (fun (s : Nat) (x : Int) => s ||| c.getD x.toNat 0) 0
theorem orL_snoc (c : List Nat) (l : List Int) (x : Int) : orL c (l ++ [x]) = orL c l ||| c.getD x.toNat 0 := by
  unfold orL
  rw [List.foldl_append]
  rfl
theorem orL_take {c : List Nat} {l : List Int} {i : Nat} (hi : i < l.length) : orL c (l.take (i + 1)) = orL c (l.take i) ||| c.getD l[i].toNat 0 := by
  rw [List.take_succ_eq_append_getElem hi, orL_snoc]
theorem getD_lt {c : List Nat} (hc : ∀ x ∈ c, x < 2 ^ 64) (i : Nat) : c.getD i 0 < 2 ^ 64 := by
  rw [List.getD_eq_getElem?_getD]
  rcases q : c[i]? with _ | x
  · decide
  · exact hc x (List.mem_of_getElem? q)
theorem orL_lt {c : List Nat} (hc : ∀ x ∈ c, x < 2 ^ 64) (l : List Int) : orL c l < 2 ^ 64 := by
  unfold orL
  suffices h : ∀ (l : List Int) (s : Nat), s < 2 ^ 64 → l.foldl (fun (s : Nat) (x : Int) => s ||| c.getD x.toNat 0) s < 2 ^ 64 from h l 0 (by decide)
  intro l
  induction l with
  | nil => intro s hs; exact hs
  | cons x l ih => intro s hs; exact ih _ (Nat.or_lt_two_pow hs (getD_lt hc _))
theorem orL_test (c : List Nat) (l : List Int) (u : Nat) : (orL c l).testBit u = l.any fun x => (c.getD x.toNat 0).testBit u := by
  unfold orL
  suffices h : ∀ (l : List Int) (s : Nat), (l.foldl (fun (s : Nat) (x : Int) => s ||| c.getD x.toNat 0) s).testBit u = (s.testBit u || l.any fun x => (c.getD x.toNat 0).testBit u) by
    rw [h]; simp
  intro l
  induction l with
  | nil => intro s; simp
  | cons x l ih => intro s; rw [List.foldl_cons, ih, Nat.testBit_or, List.any_cons, Bool.or_assoc]
theorem wrapu {n : Int} (h0 : 0 ≤ n) (h1 : n < 2 ^ 64) : IntKind.wrap .u64 n = n := wku64 h0 (by omega)
theorem or_u64 {a b : Nat} (ha : a < 2 ^ 64) (hb : b < 2 ^ 64) : bits .or .u64 a b = ((a ||| b : Nat) : Int) := (bits_nat .u64 64 (by decide) (fun n h0 h1 => wrapu h0 h1) a b ha hb).2
theorem and_u64 {a b : Nat} (ha : a < 2 ^ 64) (hb : b < 2 ^ 64) : bits .and .u64 a b = ((a &&& b : Nat) : Int) := (bits_nat .u64 64 (by decide) (fun n h0 h1 => wrapu h0 h1) a b ha hb).1
theorem shl_one {n : Nat} (hn : n < 64) : shlI .u64 1 (n : Int) = ((2 ^ n : Nat) : Int) := by
  have h : (2 ^ n : Nat) < 2 ^ 64 := Nat.pow_lt_pow_right (by decide) hn
  unfold shlI
  rw [Int.toNat_natCast, show min n IntKind.u64.bits = n by simp [IntKind.bits]; omega, Int.one_mul]
  have e : ((2 : Int) ^ n) = ((2 ^ n : Nat) : Int) := by simp
  rw [e]
  exact wku64 (Int.natCast_nonneg _) (Int.ofNat_lt.2 (show 2 ^ n < 18446744073709551616 from h))
theorem shr_test (s n : Nat) (hs : s < 2 ^ 64) (hn : n < 64) : ((bits .and .u64 (shrI .u64 (s : Int) (n : Int)) 1) == 1) = s.testBit n := by
  have e1 : shrI .u64 (s : Int) (n : Int) = ((s / 2 ^ n : Nat) : Int) := by
    unfold shrI
    rw [Int.toNat_natCast, show min n IntKind.u64.bits = n by simp [IntKind.bits]; omega]
    simp
  have e2 := and_u64 (a := s / 2 ^ n) (b := 1) (Nat.lt_of_le_of_lt (Nat.div_le_self _ _) hs) (by decide)
  rw [e1, show ((1 : Int)) = ((1 : Nat) : Int) from rfl, e2, Nat.testBit_eq_decide_div_mod_eq, Nat.and_one_is_mod]
  rcases Nat.mod_two_eq_zero_or_one (s / 2 ^ n) with q | q <;> rw [q] <;> rfl
def bitsL (s n : Nat) : List Nat := (List.range n).filter fun v => s.testBit v
theorem bitsL_succ (s n : Nat) : bitsL s (n + 1) = if s.testBit n = true then bitsL s n ++ [n] else bitsL s n := by
  simp only [bitsL, List.range_succ, List.filter_append]
  cases q : s.testBit n <;> simp [q]
theorem bitsL_len (s n : Nat) : (bitsL s n).length ≤ n := by
  have := List.length_filter_le (fun v => s.testBit v) (List.range n)
  simpa [bitsL] using this
def ints (l : List Nat) : List Int := l.map fun (n : Nat) => (n : Int)

/-! ### Closures -/
def closN (g : List (List Int)) : Nat → List Nat
  | 0 => List.replicate g.length 0
  | n + 1 => (closN g n).set n (orL (closN g n) (g.getD n []) ||| 2 ^ n)
theorem closN_len (g : List (List Int)) : ∀ n, (closN g n).length = g.length
  | 0 => by simp [closN]
  | n + 1 => by rw [closN, List.length_set, closN_len]
theorem closN_lt {g : List (List Int)} (hg : g.length ≤ 40) : ∀ n, n ≤ g.length → ∀ x ∈ closN g n, x < 2 ^ 64
  | 0, _, x, hx => by
    have := List.eq_of_mem_replicate hx
    subst this
    decide
  | n + 1, hn, x, hx => by
    rcases List.mem_or_eq_of_mem_set hx with q | q
    · exact closN_lt hg n (by omega) x q
    · rw [q]
      exact Nat.or_lt_two_pow (orL_lt (closN_lt hg n (by omega)) _) (Nat.pow_lt_pow_right (by decide) (by omega))
theorem closN_old (g : List (List Int)) : ∀ (n k i : Nat), i < n → (closN g (n + k)).getD i 0 = (closN g n).getD i 0
  | _, 0, _, _ => rfl
  | n, k + 1, i, hi => by
    rw [← Nat.add_assoc, closN, List.getD_eq_getElem?_getD, List.getElem?_set_ne (by omega), ← List.getD_eq_getElem?_getD]
    exact closN_old g n k i hi
/-- The closure of a version, as bits. -/
def clo (g : List (List Int)) (v : Nat) : Nat := (closN g g.length).getD v 0
theorem closN_clo {g : List (List Int)} {n i : Nat} (hn : n ≤ g.length) (hi : i < n) : (closN g n).getD i 0 = clo g i := by
  have := closN_old g n (g.length - n) i hi
  rw [show n + (g.length - n) = g.length by omega] at this
  exact this.symm
theorem clo_lt {g : List (List Int)} (hg : gOk g = true) (v : Nat) : clo g v < 2 ^ 64 := getD_lt (closN_lt (gOk_len hg) _ (Nat.le_refl _)) v
theorem clo_test {g : List (List Int)} (hg : gOk g = true) {v : Nat} (hv : v < g.length) (u : Nat) : (clo g v).testBit u = (decide (u = v) || g[v].any fun p => (clo g p.toNat).testBit u) := by
  have e : g.getD v [] = g[v] := by simp [hv]
  have h1 : clo g v = orL (closN g v) g[v] ||| 2 ^ v := by
    rw [← closN_clo (n := v + 1) (by omega) (by omega), closN, List.getD_eq_getElem?_getD, List.getElem?_set_self (by rw [closN_len]; omega), e]
    rfl
  have h2 : (orL (closN g v) g[v]).testBit u = g[v].any fun p => (clo g p.toNat).testBit u := by
    rw [orL_test, Bool.eq_iff_iff, List.any_eq_true, List.any_eq_true]
    constructor
    · rintro ⟨x, hx, h⟩
      have := gOk_mem hg hv hx
      exact ⟨x, hx, by rw [← closN_clo (n := v) (by omega) (by omega)]; exact h⟩
    · rintro ⟨x, hx, h⟩
      have := gOk_mem hg hv hx
      exact ⟨x, hx, by rw [closN_clo (by omega) (by omega)]; exact h⟩
  rw [h1, Nat.testBit_or, h2, Nat.testBit_two_pow, Bool.or_comm]
  congr 1
  simp only [decide_eq_decide]
  omega
theorem clo_self {g : List (List Int)} (hg : gOk g = true) {v : Nat} (hv : v < g.length) : (clo g v).testBit v = true := by
  rw [clo_test hg hv]
  simp
theorem clo_le {g : List (List Int)} (hg : gOk g = true) : ∀ {v : Nat}, v < g.length → ∀ {u : Nat}, (clo g v).testBit u = true → u ≤ v := by
  intro v
  induction v using Nat.strongRecOn with
  | _ v ih =>
    intro hv u h
    rw [clo_test hg hv] at h
    simp only [Bool.or_eq_true, decide_eq_true_eq, List.any_eq_true] at h
    rcases h with h | ⟨p, hp, h⟩
    · omega
    · have := gOk_mem hg hv hp
      have := ih p.toNat (by omega) (by omega) h
      omega

/-! ### The reference's way -/
def mark (b : List Bool) (l : List Int) : List Bool := l.foldl (fun (b : List Bool) (x : Int) => if 0 ≤ x ∧ x < b.length then b.set x.toNat true else b) b
def step (g : List (List Int)) (b : List Bool) (v : Nat) : List Bool := if b.getD v false = true then mark b (g.getD v []) else b
def down (g : List (List Int)) : Nat → List Bool → List Bool
  | 0, b => b
  | n + 1, b => down g n (step g b n)
def setL (g : List (List Int)) (l : List Int) : List Bool := down g g.length (mark (List.replicate g.length false) l)
theorem mark_snoc (b : List Bool) (l : List Int) (x : Int) : mark b (l ++ [x]) = if 0 ≤ x ∧ x < (mark b l).length then (mark b l).set x.toNat true else mark b l := by
  unfold mark
  rw [List.foldl_append]
  rfl
theorem mark_len (b : List Bool) (l : List Int) : (mark b l).length = b.length := by
  unfold mark
  induction l generalizing b with
  | nil => rfl
  | cons x l ih =>
    rw [List.foldl_cons, ih]
    split <;> simp
theorem mark_take {b : List Bool} {l : List Int} {i : Nat} (hi : i < l.length) : mark b (l.take (i + 1)) = if 0 ≤ l[i] ∧ l[i] < b.length then (mark b (l.take i)).set l[i].toNat true else mark b (l.take i) := by
  rw [List.take_succ_eq_append_getElem hi, mark_snoc, mark_len]
theorem mark_get (b : List Bool) (l : List Int) (u : Nat) : (mark b l).getD u false = (b.getD u false || (decide (u < b.length) && l.any fun x => x == (u : Int))) := by
  unfold mark
  induction l generalizing b with
  | nil => simp
  | cons x l ih =>
    rw [List.foldl_cons, ih, List.any_cons]
    split
    · rename_i hx
      simp only [List.length_set, List.getD_eq_getElem?_getD, List.getElem?_set]
      by_cases e : x.toNat = u
      · have e' : (x == (u : Int)) = true := by simp; omega
        rw [if_pos e, if_pos (by omega), e']
        simp
        right
        omega
      · have e' : (x == (u : Int)) = false := by simp; omega
        rw [if_neg e, e', Bool.false_or]
    · rename_i hx
      by_cases e : x = (u : Int)
      · have : ¬ u < b.length := by omega
        simp [this]
      · have e' : (x == (u : Int)) = false := by simp; exact e
        rw [e', Bool.false_or]
theorem down_len (g : List (List Int)) : ∀ (n : Nat) (b : List Bool), (down g n b).length = b.length
  | 0, _ => rfl
  | n + 1, b => by
    rw [down, down_len, step]
    split
    · exact mark_len _ _
    · rfl
theorem setL_len (g : List (List Int)) (l : List Int) : (setL g l).length = g.length := by rw [setL, down_len, mark_len]; simp
theorem down_get {g : List (List Int)} (hg : gOk g = true) : ∀ (m : Nat) (b : List Bool), m ≤ g.length → b.length = g.length → ∀ u, (down g m b).getD u false = true ↔ ∃ w, b.getD w false = true ∧ ((w < m ∧ (clo g w).testBit u = true) ∨ u = w)
  | 0, b, _, _, u => by
    rw [down]
    exact ⟨fun h => ⟨u, h, .inr rfl⟩, fun ⟨w, h1, h2⟩ => by
      rcases h2 with ⟨h2, _⟩ | h2
      · omega
      · rw [h2]; exact h1⟩
  | m + 1, b, hm, hb, u => by
    have hl : (step g b m).length = g.length := by
      rw [step]
      split
      · rw [mark_len]; exact hb
      · exact hb
    rw [down, down_get hg m _ (by omega) hl u]
    have e : g.getD m [] = g[m] := by simp [show m < g.length by omega]
    by_cases q : b.getD m false = true
    · rw [step, if_pos q, e]
      constructor
      · rintro ⟨w, h1, h2⟩
        rw [mark_get] at h1
        simp only [Bool.or_eq_true, Bool.and_eq_true, decide_eq_true_eq, List.any_eq_true] at h1
        rcases h1 with h1 | ⟨_, x, hx, h1⟩
        · refine ⟨w, h1, ?_⟩
          rcases h2 with ⟨h2, h3⟩ | h2
          · exact .inl ⟨by omega, h3⟩
          · exact .inr h2
        · have hx' := gOk_mem hg (v := m) (by omega) hx
          have h1 : x = (w : Int) := by simpa using h1
          subst h1
          refine ⟨m, q, .inl ⟨by omega, ?_⟩⟩
          rw [clo_test hg (by omega)]
          simp only [Bool.or_eq_true, List.any_eq_true]
          refine .inr ⟨(w : Int), hx, ?_⟩
          rw [Int.toNat_natCast]
          rcases h2 with ⟨_, h2⟩ | h2
          · exact h2
          · rw [h2]
            exact clo_self hg (by omega)
      · rintro ⟨w, h1, h2⟩
        by_cases hw : w = m
        · subst hw
          rcases h2 with ⟨_, h2⟩ | h2
          · rw [clo_test hg (by omega)] at h2
            simp only [Bool.or_eq_true, decide_eq_true_eq, List.any_eq_true] at h2
            rcases h2 with h2 | ⟨p, hp, h2⟩
            · exact ⟨w, by rw [mark_get, h1]; rfl, .inr h2⟩
            · have hp' := gOk_mem hg (v := w) (by omega) hp
              refine ⟨p.toNat, ?_, .inl ⟨by omega, h2⟩⟩
              rw [mark_get]
              simp only [Bool.or_eq_true, Bool.and_eq_true, decide_eq_true_eq, List.any_eq_true]
              exact .inr ⟨by omega, p, hp, by simp; omega⟩
          · exact ⟨w, by rw [mark_get, h1]; rfl, .inr h2⟩
        · refine ⟨w, by rw [mark_get, h1]; rfl, ?_⟩
          rcases h2 with ⟨h2, h3⟩ | h2
          · exact .inl ⟨by omega, h3⟩
          · exact .inr h2
    · rw [step, if_neg q]
      constructor
      · rintro ⟨w, h1, h2⟩
        refine ⟨w, h1, ?_⟩
        rcases h2 with ⟨h2, h3⟩ | h2
        · exact .inl ⟨by omega, h3⟩
        · exact .inr h2
      · rintro ⟨w, h1, h2⟩
        have hw : w ≠ m := fun e => q (e ▸ h1)
        refine ⟨w, h1, ?_⟩
        rcases h2 with ⟨h2, h3⟩ | h2
        · exact .inl ⟨by omega, h3⟩
        · exact .inr h2
theorem setL_get {g : List (List Int)} (hg : gOk g = true) (l : List Int) (u : Nat) : (setL g l).getD u false = true ↔ ∃ x ∈ l, 0 ≤ x ∧ x < g.length ∧ (clo g x.toNat).testBit u = true := by
  rw [setL, down_get hg _ _ (Nat.le_refl _) (by rw [mark_len]; simp)]
  constructor
  · rintro ⟨w, h1, h2⟩
    rw [mark_get] at h1
    simp only [List.length_replicate, Bool.or_eq_true, Bool.and_eq_true, decide_eq_true_eq, List.any_eq_true] at h1
    rcases h1 with h1 | ⟨h0, x, hx, h1⟩
    · rw [List.getD_eq_getElem?_getD, List.getElem?_replicate] at h1
      split at h1 <;> cases h1
    · have h1 : x = (w : Int) := by simpa using h1
      subst h1
      refine ⟨(w : Int), hx, by omega, by omega, ?_⟩
      rw [Int.toNat_natCast]
      rcases h2 with ⟨_, h2⟩ | h2
      · exact h2
      · rw [h2]; exact clo_self hg h0
  · rintro ⟨x, hx, h0, h1, h2⟩
    refine ⟨x.toNat, ?_, .inl ⟨by omega, h2⟩⟩
    rw [mark_get]
    simp only [List.length_replicate, Bool.or_eq_true, Bool.and_eq_true, decide_eq_true_eq, List.any_eq_true]
    exact .inr ⟨by omega, x, hx, by simp; omega⟩
def trues (bs : List Bool) (n : Nat) : List Nat := (List.range n).filter fun v => bs.getD v false
theorem trues_len (bs : List Bool) (v : Nat) : (trues bs v).length ≤ v := by
  have := List.length_filter_le (fun v => bs.getD v false) (List.range v)
  simpa [trues] using this
theorem trues_succ (bs : List Bool) (v : Nat) : trues bs (v + 1) = if bs.getD v false = true then trues bs v ++ [v] else trues bs v := by
  simp only [trues, List.range_succ, List.filter_append]
  cases q : bs.getD v false <;> simp [q, -List.getD_eq_getElem?_getD]
/-- Both tell the same list. -/
theorem setL_bits {g : List (List Int)} (hg : gOk g = true) (l : List Int) (hl : ∀ x ∈ l, 0 ≤ x ∧ x < (g.length : Int)) : trues (setL g l) g.length = bitsL (orL (closN g g.length) l) 64 := by
  have hlen := gOk_len hg
  unfold trues bitsL
  have e : (List.range 64) = List.range g.length ++ (List.range (64 - g.length)).map (g.length + ·) := by
    rw [← List.range_add]
    congr 1
    omega
  rw [e, List.filter_append]
  have h2 : ((List.range (64 - g.length)).map (g.length + ·)).filter (fun v => (orL (closN g g.length) l).testBit v) = [] := by
    rw [List.filter_eq_nil_iff]
    intro v hv
    obtain ⟨k, _, rfl⟩ := List.mem_map.1 hv
    intro q
    rw [orL_test, List.any_eq_true] at q
    obtain ⟨x, hx, q⟩ := q
    have := hl x hx
    have := clo_le hg (v := x.toNat) (by omega) q
    omega
  rw [h2, List.append_nil]
  apply List.filter_congr
  intro v _
  rw [Bool.eq_iff_iff, setL_get hg, orL_test, List.any_eq_true]
  constructor
  · rintro ⟨x, hx, _, _, h⟩
    exact ⟨x, hx, h⟩
  · rintro ⟨x, hx, h⟩
    have := hl x hx
    exact ⟨x, hx, this.1, this.2, h⟩
end Go.TV.F
/- Plain Lean: two loops, side by side; the check sums. -/
namespace Go.TV.F
open Go.TV
theorem loopM_total2 {σ τ ρ κ : Type} {f : σ → Option (σ ⊕ ρ)} {g : τ → Option (τ ⊕ κ)} (R : σ → τ → Prop) (m : σ → Nat) (Q : ρ → κ → Prop) {s : σ} {t : τ} (h0 : R s t)
    (h : ∀ s t, R s t → (∃ s' t', f s = some (.inl s') ∧ g t = some (.inl t') ∧ R s' t' ∧ m s' < m s) ∨ ∃ r r', f s = some (.inr r) ∧ g t = some (.inr r') ∧ Q r r') :
    ∃ r r', loopM f s = some r ∧ loopM g t = some r' ∧ Q r r' := by
  have key : ∀ n s t, R s t → m s = n → ∃ r r', loopM f s = some r ∧ loopM g t = some r' ∧ Q r r' := by
    intro n
    induction n using Nat.strongRecOn with
    | _ n ih =>
      intro s t hs hm
      rw [loopM_eq f, loopM_eq g]
      rcases h s t hs with ⟨s', t', h1, h2, h3, h4⟩ | ⟨r, r', h1, h2, h3⟩
      · rw [h1, h2]
        exact ih (m s') (by omega) s' t' h3 rfl
      · rw [h1, h2]
        exact ⟨r, r', rfl, rfl, h3⟩
  exact key _ s t h0 rfl
theorem and32 {a b : Nat} (ha : a < 2 ^ 32) (hb : b < 2 ^ 32) : bits .and .u32 a b = ((a &&& b : Nat) : Int) := (bits_nat .u32 32 (by decide) (fun n h0 h1 => wku32 h0 (by simpa using h1)) a b ha hb).1
theorem xor32 {a b : Nat} (ha : a < 2 ^ 32) (hb : b < 2 ^ 32) : ∃ c : Nat, bits .xor .u32 a b = (c : Int) ∧ c < 2 ^ 32 := by
  refine ⟨(bits .xor .u32 a b).toNat, ?_, ?_⟩
  · have : 0 ≤ bits .xor .u32 (a : Int) b := by
      show 0 ≤ wk .u32 _
      rw [wku32_mod]
      omega
    omega
  · have : bits .xor .u32 (a : Int) b < 4294967296 := by
      show wk .u32 _ < _
      rw [wku32_mod]
      omega
    omega
theorem tmod_nat (a b : Nat) : ((a : Int)).tmod (b : Int) = ((a % b : Nat) : Int) := by
  rw [Int.tmod_eq_emod_of_nonneg (by omega)]
  rfl
theorem tdiv_nat (a b : Nat) : ((a : Int)).tdiv (b : Int) = ((a / b : Nat) : Int) := by
  rw [Int.tdiv_eq_ediv_of_nonneg (by omega)]
  rfl
theorem shr32_1 (a : Nat) : shrI .u32 (a : Int) 1 = ((a / 2 : Nat) : Int) := by
  unfold shrI
  simp [IntKind.bits]
/-! ### Check sums -/
def isW32 (x : Int) : Prop := 0 ≤ x ∧ x < 4294967296
theorem sum_l2 {x k : Int} (hx : isW32 x) : impl_SumMore_l2 x k = spec_SumMore_l2 x k := by
  obtain ⟨n, rfl⟩ : ∃ n : Nat, x = n := ⟨x.toNat, by have := hx.1; omega⟩
  have hn : n < 2 ^ 32 := by have := hx.2; omega
  unfold impl_SumMore_l2 spec_SumMore_l2
  have e1 : bits .and .u32 (n : Int) 1 = ((n : Int)).tmod 2 := by
    rw [show ((1 : Int)) = ((1 : Nat) : Int) from rfl, and32 hn (by decide), show ((2 : Int)) = ((2 : Nat) : Int) from rfl, tmod_nat, Nat.and_one_is_mod]
  have e2 : wk .u32 (((n : Int)).tdiv 2) = shrI .u32 (n : Int) 1 := by
    rw [shr32_1, show ((2 : Int)) = ((2 : Nat) : Int) from rfl, tdiv_nat, wku32 (by omega) (by omega)]
  rw [e1, e2]
theorem w32_xor (x y : Int) : isW32 (bits .xor .u32 x y) := by
  unfold isW32
  show 0 ≤ wk .u32 _ ∧ wk .u32 _ < _
  rw [wku32_mod]
  omega
theorem w32_shr {x : Int} (hx : isW32 x) : isW32 (shrI .u32 x 1) := by
  obtain ⟨n, rfl⟩ : ∃ n : Nat, x = n := ⟨x.toNat, by have := hx.1; omega⟩
  have := hx.2
  rw [shr32_1]
  constructor <;> omega
theorem sum_inner {x : Int} (hx : isW32 x) : ∃ r, loopM (fun (s' : Int × Int) => impl_SumMore_l2 s'.1 s'.2) (x, 0) = some r ∧ loopM (fun (s' : Int × Int) => spec_SumMore_l2 s'.1 s'.2) (x, 0) = some r ∧ isW32 r := by
  obtain ⟨r, r', h1, h2, h3, h4⟩ := loopM_total2 (f := fun (s' : Int × Int) => impl_SumMore_l2 s'.1 s'.2) (g := fun (s' : Int × Int) => spec_SumMore_l2 s'.1 s'.2) (fun s t => s = t ∧ isW32 s.1 ∧ 0 ≤ s.2 ∧ s.2 ≤ 8) (fun s => (8 - s.2).toNat) (fun r r' => r = r' ∧ isW32 r)
    (s := (x, 0)) (t := (x, 0)) ⟨rfl, hx, by simp, by simp⟩ (fun s t hs => by
    obtain ⟨v, k⟩ := s
    obtain ⟨rfl, hv, h0, h8⟩ := hs
    simp only at hv h0 h8 ⊢
    rw [← sum_l2 hv]
    unfold impl_SumMore_l2
    by_cases q : k < 8
    · rw [ifT (by simpa using q), wk64 (x := k + 1) (by omega) (by omega)]
      split
      · exact .inl ⟨_, _, rfl, rfl, ⟨rfl, w32_xor _ _, by simp only; omega, by simp only; omega⟩, by simp only; omega⟩
      · exact .inl ⟨_, _, rfl, rfl, ⟨rfl, w32_shr hv, by simp only; omega, by simp only; omega⟩, by simp only; omega⟩
    · rw [ifF (by simpa using q)]
      exact .inr ⟨_, _, rfl, rfl, rfl, hv⟩)
  subst h3
  exact ⟨r, h1, h2, h4⟩
theorem sidx_in {s : ByteArray} {k : Nat} (h : k < s.size) : ∃ b : Nat, sidx s (k : Int) = some (b : Int) ∧ b < 256 := by
  unfold sidx
  rw [if_neg (by omega), Int.toNat_natCast, if_pos h]
  exact ⟨_, rfl, UInt8.toNat_lt _⟩
theorem sumMore_eq {x : Int} (hx : isW32 x) {text : ByteArray} (ht : text.size ≤ 1000000000) : ∃ r, impl_SumMore x text = some r ∧ spec_SumMore x text = some r ∧ isW32 r := by
  unfold impl_SumMore spec_SumMore
  obtain ⟨r, r', h1, h2, h3, h4⟩ := loopM_total2 (f := fun (s' : Int × Int) => impl_SumMore_l1 text s'.1 s'.2) (g := fun (s' : Int × Int) => spec_SumMore_l1 text s'.1 s'.2) (fun s t => s = t ∧ isW32 s.1 ∧ 0 ≤ s.2 ∧ s.2 ≤ text.size) (fun s => (text.size - s.2).toNat) (fun r r' => r = r' ∧ isW32 r)
    (s := (x, 0)) (t := (x, 0)) ⟨rfl, hx, by simp, by simp⟩ (fun s t hs => by
    obtain ⟨v, k⟩ := s
    obtain ⟨rfl, hv, h0, h8⟩ := hs
    simp only at hv h0 h8 ⊢
    obtain ⟨k, rfl⟩ : ∃ n : Nat, k = n := ⟨k.toNat, by omega⟩
    unfold impl_SumMore_l1 spec_SumMore_l1
    by_cases q : k < text.size
    · rw [ifT (by simpa using q), ifT (by simpa using q)]
      obtain ⟨b, hb, _⟩ := sidx_in q
      rw [hb, Option.bind_some, Option.bind_some]
      obtain ⟨z, g1, g2, g3⟩ := sum_inner (w32_xor v (wk .u32 (b : Int)))
      rw [g1, g2, Option.bind_some, Option.bind_some]
      unfold impl_SumMore_j2 spec_SumMore_j2
      rw [wk64 (by omega) (by omega)]
      exact .inl ⟨_, _, rfl, rfl, ⟨rfl, g3, by simp only; omega, by simp only; omega⟩, by simp only; omega⟩
    · rw [ifF (by simpa using q), ifF (by simpa using q)]
      exact .inr ⟨_, _, rfl, rfl, rfl, hv⟩)
  subst h3
  rw [h1, h2]
  exact ⟨r, rfl, rfl, h4⟩
theorem sumOf_eq {text : ByteArray} (ht : text.size ≤ 1000000000) : ∃ r, impl_SumOf text = some r ∧ spec_SumOf text = some r ∧ isW32 r := by
  obtain ⟨r, h1, h2, h3⟩ := sumMore_eq (x := 4294967295) ⟨by decide, by decide⟩ ht
  refine ⟨r, ?_, ?_, h3⟩
  · unfold impl_SumOf
    rw [h1]
    rfl
  · unfold spec_SumOf
    rw [h2]
    rfl
theorem subL_in {s : ByteArray} {lo : Int} (h0 : 0 ≤ lo) (h : lo ≤ s.size) : subL s lo = some (s.extract lo.toNat s.size) := by
  unfold subL
  rw [if_neg (by omega), if_pos (by omega)]
theorem subH_in {s : ByteArray} {hi : Int} (h0 : 0 ≤ hi) (h : hi ≤ s.size) : subH s hi = some (s.extract 0 hi.toNat) := by
  unfold subH
  rw [if_neg (by omega), if_pos (by omega)]
theorem sub2_in {s : ByteArray} {lo hi : Int} (h0 : 0 ≤ lo) (h1 : lo ≤ hi) (h : hi ≤ s.size) : sub2 s lo hi = some (s.extract lo.toNat hi.toNat) := by
  unfold sub2
  rw [if_neg (by omega), if_neg (by omega), if_pos (by omega)]
/-- What is left of a sealed text. -/
theorem unsealed_eq {text : ByteArray} (ht : text.size ≤ 1000000000) : ∃ t ok, impl_Unsealed text = some (t, ok) ∧ spec_Unsealed text = some (t, ok) ∧ t.size ≤ 60000 := by
  unfold impl_Unsealed spec_Unsealed
  rw [wk64 (x := (text.size : Int) - 4) (by omega) (by omega)]
  by_cases q : (text.size : Int) - 4 < 0
  · rw [ifT (by simpa using q)]
    exact ⟨_, _, rfl, rfl, by decide⟩
  rw [ifF (by simpa using q)]
  simp only [Option.bind_some]
  by_cases q2 : (text.size : Int) - 4 > 60000
  · have q2' : decide ((text.size : Int) - 4 > 60000) = true := by simpa using q2
    rw [q2']
    exact ⟨_, _, rfl, rfl, by decide⟩
  have q2' : decide ((text.size : Int) - 4 > 60000) = false := by simpa using q2
  rw [q2']
  simp only [Bool.false_eq_true, if_false]
  rw [subL_in (by omega) (by omega), subH_in (by omega) (by omega)]
  simp only [Option.bind_some]
  have hsz : (text.extract 0 ((text.size : Int) - 4).toNat).size ≤ 60000 := by
    rw [ByteArray.size_extract]
    omega
  obtain ⟨r, h1, h2, h3⟩ := sumOf_eq (text := text.extract 0 ((text.size : Int) - 4).toNat) (by omega)
  unfold impl_sumText spec_l02Four
  rw [h1, h2]
  simp only [Option.bind_some]
  generalize mkS _ = u
  generalize text.extract ((text.size : Int) - 4).toNat text.size = v
  have e : (!(u.toList == v.toList)) = (!(v.toList == u.toList)) := by
    rw [Bool.beq_comm]
  rw [e]
  split
  · exact ⟨_, _, rfl, rfl, by decide⟩
  · exact ⟨_, _, rfl, rfl, hsz⟩
end Go.TV.F
/- Plain Lean: numbers of seven bits a byte. -/
namespace Go.TV.F
open Go.TV
/-- The bytes of a number, seven bits a byte. -/
def encL (n : Nat) : List Nat := if h : n ≤ 127 then [n] else (n % 128 + 128) :: encL (n / 128)
termination_by n
decreasing_by omega
def valL : List Nat → Nat
  | [] => 0
  | c :: l => c % 128 + 128 * valL l
theorem encL_lo {n : Nat} (h : n ≤ 127) : encL n = [n] := by rw [encL, dif_pos h]
theorem encL_hi {n : Nat} (h : ¬ n ≤ 127) : encL n = (n % 128 + 128) :: encL (n / 128) := by rw [encL, dif_neg h]
theorem valL_enc : ∀ n : Nat, valL (encL n) = n := by
  intro n
  induction n using Nat.strongRecOn with
  | _ n ih =>
    by_cases h : n ≤ 127
    · rw [encL_lo h]
      simp only [valL]
      omega
    · rw [encL_hi h, valL, ih (n / 128) (by omega)]
      omega
theorem valL_snoc (l : List Nat) (c : Nat) : valL (l ++ [c]) = valL l + c % 128 * 128 ^ l.length := by
  induction l with
  | nil => simp [valL]
  | cons x l ih =>
    rw [List.cons_append, valL, ih, valL, List.length_cons, Nat.pow_succ, Nat.mul_add]
    have : 128 * (c % 128 * 128 ^ l.length) = c % 128 * (128 ^ l.length * 128) := by
      rw [Nat.mul_comm, Nat.mul_assoc]
    omega
theorem valL_lt (l : List Nat) : valL l < 128 ^ l.length := by
  induction l with
  | nil => simp [valL]
  | cons x l ih =>
    rw [valL, List.length_cons, Nat.pow_succ]
    omega
theorem valL_pos {l : List Nat} {c : Nat} (h0 : c ≠ 0) (h1 : c < 128) : 0 < valL (l ++ [c]) := by
  rw [valL_snoc, Nat.mod_eq_of_lt h1]
  have := Nat.pow_pos (n := l.length) (show 0 < 128 by decide)
  have := Nat.mul_pos (Nat.pos_of_ne_zero h0) this
  omega
theorem enc_val_good : ∀ (l : List Nat) {c : Nat}, c ≠ 0 → c < 128 → (∀ x ∈ l, 128 ≤ x ∧ x < 256) → encL (valL (l ++ [c])) = l ++ [c]
  | [], c, _, h1, _ => by
    have e : valL ([] ++ [c]) = c := by simp only [List.nil_append, valL]; omega
    rw [e, encL_lo (by omega)]
    rfl
  | x :: l, c, h0, h1, hl => by
    have hx := hl x (by simp)
    have hp := valL_pos (l := l) h0 h1
    have ih := enc_val_good l h0 h1 (fun y hy => hl y (by simp [hy]))
    rw [List.cons_append, valL, encL_hi (by omega)]
    have e1 : (x % 128 + 128 * valL (l ++ [c])) % 128 + 128 = x := by omega
    have e2 : (x % 128 + 128 * valL (l ++ [c])) / 128 = valL (l ++ [c]) := by omega
    rw [e1, e2, ih]
theorem enc_last0 : ∀ (n : Nat) (l : List Nat), encL n = l ++ [0] → l = [] := by
  intro n
  induction n using Nat.strongRecOn with
  | _ n ih =>
    intro l h
    by_cases q : n ≤ 127
    · rw [encL_lo q] at h
      cases l with
      | nil => rfl
      | cons x l =>
        have := congrArg List.length h
        simp at this
    · rw [encL_hi q] at h
      cases l with
      | nil => rfl
      | cons x l =>
        rw [List.cons_append] at h
        injection h with h1 h2
        have e := ih (n / 128) (by omega) l h2
        subst e
        have := congrArg valL h2
        rw [valL_enc] at this
        simp only [List.nil_append, valL] at this
        omega
/-- Bytes are those of their number just when they are as few as can be. -/
theorem enc_val {l : List Nat} {c : Nat} (h1 : c < 128) (hl : ∀ x ∈ l, 128 ≤ x ∧ x < 256) : encL (valL (l ++ [c])) = l ++ [c] ↔ ¬ (c = 0 ∧ l ≠ []) := by
  constructor
  · rintro h ⟨rfl, hn⟩
    exact hn (enc_last0 _ _ h)
  · intro h
    by_cases h0 : c = 0
    · have : l = [] := by
        by_cases q : l = []
        · exact q
        · exact absurd ⟨h0, q⟩ h
      subst this
      subst h0
      rw [show valL ([] ++ [0]) = 0 from rfl, encL_lo (by omega)]
      rfl
    · exact enc_val_good l h0 h1 hl
theorem encL_byte : ∀ (n : Nat) (x : Nat), x ∈ encL n → x < 256 := by
  intro n
  induction n using Nat.strongRecOn with
  | _ n ih =>
    intro x hx
    by_cases q : n ≤ 127
    · rw [encL_lo q] at hx
      simp at hx
      omega
    · rw [encL_hi q] at hx
      rcases List.mem_cons.1 hx with rfl | h
      · omega
      · exact ih (n / 128) (by omega) x h
end Go.TV.F
/- Plain Lean: numbers and texts read. -/
namespace Go.TV.F
open Go.TV
theorem toList_loop (bs : ByteArray) : ∀ (m i : Nat) (r : List UInt8), i + m = bs.size → ByteArray.toList.loop bs i r = r.reverse ++ bs.data.toList.drop i
  | 0, i, r, h => by
    rw [ByteArray.toList.loop, if_neg (by omega), List.drop_eq_nil_of_le (by show bs.data.toList.length ≤ i; have : bs.data.toList.length = bs.size := rfl; omega), List.append_nil]
  | m + 1, i, r, h => by
    have hi : i < bs.data.toList.length := by have : bs.data.toList.length = bs.size := rfl; omega
    rw [ByteArray.toList.loop, if_pos (by omega), toList_loop bs m (i + 1) _ (by omega), List.drop_eq_getElem_cons hi]
    have e : bs.get! i = bs.data.toList[i] := by
      show bs.data[i]! = _
      rw [getElem!_pos bs.data i (by simpa using hi)]
      simp
    rw [e]
    simp
theorem toList_eq (bs : ByteArray) : bs.toList = bs.data.toList := by
  unfold ByteArray.toList
  rw [toList_loop bs bs.size 0 [] (by omega)]
  simp
/-- The bytes of a text, as numbers. -/
def nb (s : ByteArray) : List Nat := s.data.toList.map UInt8.toNat
theorem nb_len (s : ByteArray) : (nb s).length = s.size := by simp [nb]
theorem nb_inj {s t : ByteArray} (h : nb s = nb t) : s = t := by
  have : s.data.toList = t.data.toList := List.map_inj_right (fun a b hab => UInt8.toNat_inj.1 hab) |>.1 h
  exact ByteArray.ext (Array.toList_inj.1 this)
theorem beq_nb (s t : ByteArray) : (s.toList == t.toList) = decide (nb s = nb t) := by
  rw [toList_eq, toList_eq]
  by_cases h : nb s = nb t
  · have := nb_inj h
    subst this
    simp
  · rw [decide_eq_false h, beq_eq_false_iff_ne]
    intro he
    exact h (by unfold nb; rw [he])
theorem nb_lt {s : ByteArray} {x : Nat} (h : x ∈ nb s) : x < 256 := by
  obtain ⟨b, _, rfl⟩ := List.mem_map.1 h
  exact UInt8.toNat_lt b
theorem sidx_nb {s : ByteArray} {k : Nat} (h : k < s.size) : ∃ b : Nat, sidx s (k : Int) = some (b : Int) ∧ (nb s)[k]? = some b ∧ b < 256 := by
  unfold sidx
  rw [if_neg (by omega), Int.toNat_natCast, if_pos h]
  have hk : k < s.data.size := h
  refine ⟨(s.data[k]).toNat, ?_, ?_, UInt8.toNat_lt _⟩
  · unfold bt
    congr 2
    rw [Array.getD_eq_getD_getElem?, Array.getElem?_eq_getElem hk]
    rfl
  · simp [nb, hk, Array.getElem?_eq_getElem hk]
theorem nb_extract (s : ByteArray) (a b : Nat) : nb (s.extract a b) = ((nb s).drop a).take (b - a) := by
  have : (s.extract a b).data = s.data.extract a b := ByteArray.data_extract
  unfold nb
  rw [this, Array.toList_extract]
  simp [List.extract]
theorem nb_mkS {l : List Nat} (h : ∀ x ∈ l, x < 256) : nb (mkS (l.map fun x : Nat => (x : Int))) = l := by
  unfold nb mkS
  simp only [List.map_map]
  conv => rhs; rw [← List.map_id l]
  apply List.map_congr_left
  intro x hx
  have := h x hx
  simp
  omega
theorem nb_append (s t : ByteArray) : nb (s ++ t) = nb s ++ nb t := by
  unfold nb
  rw [ByteArray.data_append]
  simp
theorem mkS_app (l m : List Int) : mkS (l ++ m) = mkS l ++ mkS m := by
  apply ByteArray.ext
  simp [mkS, ByteArray.data_append]
theorem mkS_size (l : List Int) : (mkS l).size = l.length := by
  show (mkS l).data.size = _
  simp [mkS]
/-- A number's bytes. -/
def encS (n : Nat) : ByteArray := mkS ((encL n).map fun x : Nat => (x : Int))
theorem nb_encS (n : Nat) : nb (encS n) = encL n := nb_mkS (encL_byte n)
theorem var_loop : ∀ (n : Nat) (out : List Int), out.length + n ≤ 68719476736 → ∃ (c : Int) (o : List Int), loopM (fun (s' : Int × (List Int)) => spec_l01Var_l1 s'.1 s'.2) ((n : Int), out) = some (c, o) ∧ 0 ≤ c ∧ c ≤ 127 ∧ o ++ [c] = out ++ (encL n).map (fun x : Nat => (x : Int)) ∧ o.length ≤ 68719476736 := by
  intro n
  induction n using Nat.strongRecOn with
  | _ n ih =>
    intro out h
    rw [loopM_eq]
    simp only [spec_l01Var_l1]
    by_cases q : n ≤ 127
    · rw [ifF (by simp; omega)]
      refine ⟨_, _, rfl, by omega, by omega, ?_, by omega⟩
      rw [encL_lo q]
      rfl
    · rw [ifT (by simp; omega), show (128 : Int) = ((128 : Nat) : Int) from rfl, tmod_nat, tdiv_nat, wk64 (x := ((n % 128 : Nat) : Int) + ((128 : Nat) : Int)) (by omega) (by omega), wku8 (by omega) (by omega), appn_in (by simp; omega)]
      simp only [Option.bind_some, List.append_eq]
      rw [wk64 (x := ((n / 128 : Nat) : Int)) (by omega) (by omega)]
      obtain ⟨c, o, h1, h2, h3, h4, h5⟩ := ih (n / 128) (by omega) (out ++ [((n % 128 : Nat) : Int) + ((128 : Nat) : Int)]) (by simp; omega)
      refine ⟨c, o, h1, h2, h3, ?_, h5⟩
      rw [h4, encL_hi q]
      simp
theorem l01Var_eq {n : Nat} (h : n ≤ 34359738368) : spec_l01Var (n : Int) = some (encS n) := by
  unfold spec_l01Var
  obtain ⟨c, o, h1, h2, h3, h4, h5⟩ := var_loop n [] (by simp; omega)
  rw [h1]
  simp only [Option.bind_some]
  unfold spec_l01Var_j1
  rw [wku8 h2 (by omega), appn_in (by simp; omega), Option.bind_some, h4]
  rfl
/-- A number, read. -/
theorem readVar_eq {text : ByteArray} (ht : text.size ≤ 1000000000) {a : Nat} (ha : a ≤ text.size) : ∃ (n next : Nat) (ok : Bool), impl_ReadVar text (a : Int) = some ((n : Int), (next : Int), ok) ∧ spec_ReadVar text (a : Int) = some ((n : Int), (next : Int), ok) ∧
    n ≤ 1000000000 ∧ (ok = true → a < next ∧ next ≤ text.size ∧ ((nb text).drop a).take (next - a) = encL n) := by
  unfold impl_ReadVar spec_ReadVar
  rw [ifF (by simp)]
  simp only [Option.bind_some]
  rw [ifF (by simp; omega)]
  have hin : spec_l01In (a : Int) 0 (text.size : Int) = some true := by
    unfold spec_l01In
    rw [ifT (by simp)]
    simp
    omega
  rw [hin, Option.bind_some, ifF (by simp)]
  have hnl := nb_len text
  obtain ⟨r, r', h1, h2, h3⟩ := loopM_total2 (f := fun (s' : Int × Int × Int) => impl_ReadVar_l1 text (a : Int) s'.1 s'.2.1 s'.2.2) (g := fun (s' : Int × Int × Int) => spec_ReadVar_l1 text (a : Int) s'.1 s'.2.1 s'.2.2)
    (fun s t => ∃ k : Nat, k ≤ 5 ∧ a + k ≤ text.size ∧ s = (((valL (((nb text).drop a).take k) : Nat) : Int), ((128 ^ k : Nat) : Int), (k : Int)) ∧ t = (((valL (((nb text).drop a).take k) : Nat) : Int), ((128 ^ k : Nat) : Int), ((a + k : Nat) : Int)) ∧ ∀ x ∈ ((nb text).drop a).take k, 128 ≤ x ∧ x < 256)
    (fun s => (5 - s.2.2).toNat) (fun r r' => r = r' ∧ (r = .inr () ∨ r = .inl (0, 0, false) ∨ ∃ n next : Nat, r = .inl ((n : Int), (next : Int), true) ∧ n ≤ 1000000000 ∧ a < next ∧ next ≤ text.size ∧ ((nb text).drop a).take (next - a) = encL n))
    (s := (0, 1, 0)) (t := (0, 1, (a : Int))) ⟨0, by omega, by omega, by simp [valL], by simp [valL], by simp⟩ (fun s t hs => by
    obtain ⟨k, hk5, hks, rfl, rfl, hall⟩ := hs
    simp only
    unfold impl_ReadVar_l1 spec_ReadVar_l1
    have e1 : wk .i64 ((a : Int) + (k : Int)) = ((a + k : Nat) : Int) := by rw [wk64 (by omega) (by omega)]; omega
    have e2 : wk .i64 ((a : Int) + 5) = ((a + 5 : Nat) : Int) := by rw [wk64 (by omega) (by omega)]; omega
    rw [e1, e2]
    have c1 : (if decide ((k : Int) < 5) = true then some (decide (((a + k : Nat) : Int) < (text.size : Int))) else some false) = some (decide (k < 5 ∧ a + k < text.size)) := by
      by_cases q : k < 5
      · rw [ifT (by simp; omega)]
        congr 1
        simp [q]
        omega
      · rw [ifF (by simp; omega)]
        simp [q]
    have c2 : (if decide (((a + k : Nat) : Int) < (text.size : Int)) = true then some (decide (((a + k : Nat) : Int) < ((a + 5 : Nat) : Int))) else some false) = some (decide (k < 5 ∧ a + k < text.size)) := by
      by_cases q : a + k < text.size
      · rw [ifT (by simp; omega)]
        congr 1
        simp [q]
        omega
      · rw [ifF (by simp; omega)]
        simp [q]
    rw [c1, c2]
    simp only [Option.bind_some]
    by_cases q : k < 5 ∧ a + k < text.size
    · obtain ⟨q1, q2⟩ := q
      rw [ifT (by simp [q1, q2]), ifT (by simp [q1, q2])]
      obtain ⟨b, g1, g2, g3⟩ := sidx_nb q2
      rw [g1]
      simp only [Option.bind_some]
      have hb : wk .i64 (b : Int) = (b : Int) := wk64 (by omega) (by omega)
      rw [hb]
      have hpw : 128 ^ k ≤ 128 ^ 4 := Nat.pow_le_pow_right (by omega) (by omega)
      have hpw' : 128 ^ k ≤ 268435456 := by simpa using hpw
      have hlen : (((nb text).drop a).take k).length = k := by simp; omega
      have hval := valL_lt (((nb text).drop a).take k)
      rw [hlen] at hval
      have hmul : b % 128 * 128 ^ k ≤ 127 * 268435456 := Nat.mul_le_mul (by omega) hpw'
      obtain ⟨M, hM⟩ : ∃ M, M = b % 128 * 128 ^ k := ⟨_, rfl⟩
      rw [← hM] at hmul
      have e3 : wk .i64 (((b : Int)).tmod 128 * ((128 ^ k : Nat) : Int)) = (M : Int) := by
        rw [show (128 : Int) = ((128 : Nat) : Int) from rfl, tmod_nat, ← Int.natCast_mul, ← hM, wk64 (by omega) (by omega)]
      have htk : ((nb text).drop a).take (k + 1) = ((nb text).drop a).take k ++ [b] := by
        rw [List.take_add_one, List.getElem?_drop, g2]
        rfl
      have hv1 : valL (((nb text).drop a).take (k + 1)) = valL (((nb text).drop a).take k) + M := by
        rw [htk, valL_snoc, hlen, ← hM]
      have e4 : wk .i64 (((valL (((nb text).drop a).take k) : Nat) : Int) + (M : Int)) = ((valL (((nb text).drop a).take (k + 1)) : Nat) : Int) := by
        rw [hv1, wk64 (by omega) (by omega)]
        omega
      have e5 : wk .i64 (((128 ^ k : Nat) : Int) * 128) = ((128 ^ (k + 1) : Nat) : Int) := by
        rw [wk64 (by omega) (by omega), Nat.pow_succ]
        omega
      have e6 : wk .i64 ((k : Int) + 1) = ((k + 1 : Nat) : Int) := by rw [wk64 (by omega) (by omega)]; omega
      have e7 : wk .i64 (((a + k : Nat) : Int) + 1) = ((a + (k + 1) : Nat) : Int) := by rw [wk64 (by omega) (by omega)]; omega
      simp only [e3, e4, e5, e6, e7]
      obtain ⟨v, hv⟩ : ∃ v, v = valL (((nb text).drop a).take (k + 1)) := ⟨_, rfl⟩
      rw [← hv] at hv1 ⊢
      have hvb : v ≤ 34359738368 := by omega
      by_cases qb : b < 128
      · have d0 : decide ((b : Int) ≥ 128) = false := decide_eq_false (by omega)
        have d0' : decide ((b : Int) < 128) = true := decide_eq_true (by omega)
        simp only [d0, d0', Bool.false_eq_true, if_false, if_true]
        have hcan := enc_val (l := ((nb text).drop a).take k) qb hall
        rw [← htk, ← hv] at hcan
        have hsub : sub2 text (a : Int) ((a + (k + 1) : Nat) : Int) = some (text.extract a (a + (k + 1))) := by
          rw [sub2_in (by omega) (by omega) (by omega)]
          rfl
        have hne : (((nb text).drop a).take k ≠ []) ↔ k > 0 := by
          rw [← List.length_pos_iff, hlen]
        have d2 : (if ((b : Int) == 0) = true then some (decide ((k : Int) > 0)) else some false) = some (decide (b = 0 ∧ k > 0)) := by
          by_cases qz : b = 0
          · rw [ifT (by simp [qz]), show decide (b = 0 ∧ k > 0) = decide ((k : Int) > 0) from by simp [qz]]
          · rw [ifF (by simpa using qz)]
            simp [qz]
        rw [d2]
        simp only [Option.bind_some]
        by_cases qn : v > 1000000000
        · have d1 : decide ((v : Int) > 1000000000) = true := decide_eq_true (by omega)
          refine .inr ⟨.inl (0, 0, false), .inl (0, 0, false), ?_, ?_, rfl, .inr (.inl rfl)⟩
          · by_cases q0 : b = 0 ∧ k > 0
            · simp only [decide_eq_true q0, d1, if_true, Option.bind_some]
            · simp only [decide_eq_false q0, d1, if_true, if_false, Bool.false_eq_true, Option.bind_some]
          · simp only [d1, if_true, Option.bind_some]
        · have d1 : decide ((v : Int) > 1000000000) = false := decide_eq_false (by omega)
          simp only [d1, Bool.false_eq_true, if_false]
          rw [l01Var_eq hvb]
          simp only [Option.bind_some]
          rw [hsub]
          simp only [Option.bind_some]
          rw [beq_nb, nb_encS, nb_extract, show a + (k + 1) - a = k + 1 by omega]
          by_cases q0 : b = 0 ∧ k > 0
          · have hc : ¬ encL v = ((nb text).drop a).take (k + 1) := fun h => (hcan.1 h) ⟨q0.1, hne.2 q0.2⟩
            simp only [decide_eq_true q0, decide_eq_false hc, if_true, Option.bind_some, Bool.not_false]
            exact .inr ⟨_, _, rfl, rfl, rfl, .inr (.inl rfl)⟩
          · have hc := hcan.2 (fun h => q0 ⟨h.1, hne.1 h.2⟩)
            simp only [decide_eq_false q0, decide_eq_true hc, Bool.false_eq_true, if_false, Option.bind_some, Bool.not_true]
            refine .inr ⟨_, _, rfl, rfl, rfl, .inr (.inr ⟨_, _, rfl, by omega, by omega, by omega, ?_⟩)⟩
            rw [show a + (k + 1) - a = k + 1 by omega]
            exact hc.symm
      · have d0 : decide ((b : Int) ≥ 128) = true := decide_eq_true (by omega)
        have d0' : decide ((b : Int) < 128) = false := decide_eq_false (by omega)
        simp only [d0, d0', Bool.false_eq_true, if_false, if_true]
        refine .inl ⟨_, _, rfl, rfl, ⟨k + 1, by omega, by omega, by rw [← hv], by rw [← hv], ?_⟩, ?_⟩
        · intro x hx
          rw [htk] at hx
          rcases List.mem_append.1 hx with hx | hx
          · exact hall x hx
          · simp at hx
            omega
        · simp only
          omega
    · rw [ifF (by simpa using q), ifF (by simpa using q)]
      exact .inr ⟨_, _, rfl, rfl, rfl, .inl rfl⟩)
  obtain ⟨rfl, h4⟩ := h3
  rw [h1, h2]
  rcases h4 with rfl | rfl | ⟨n, next, rfl, g1, g2, g3, g4⟩
  · exact ⟨0, 0, false, rfl, rfl, by omega, fun h => by cases h⟩
  · exact ⟨0, 0, false, rfl, rfl, by omega, fun h => by cases h⟩
  · exact ⟨n, next, true, rfl, rfl, g1, fun _ => ⟨g2, g3, g4⟩⟩
end Go.TV.F
/- Plain Lean: the program's scanner and the reference's, side by side. -/
namespace Go.TV.F
open Go.TV
theorem loopM_total2c {σ τ ρ κ : Type} {f : σ → Option (σ ⊕ ρ)} {g : τ → Option (τ ⊕ κ)} (R : σ → τ → Prop) (m : σ → Nat) (Q : ρ → κ → Prop) {s : σ} {t : τ} (h0 : R s t)
    (h : ∀ s t, R s t → (∃ s' t', f s = some (.inl s') ∧ g t = some (.inl t') ∧ R s' t' ∧ m s' < m s) ∨ ∃ r r', loopM f s = some r ∧ loopM g t = some r' ∧ Q r r') :
    ∃ r r', loopM f s = some r ∧ loopM g t = some r' ∧ Q r r' := by
  have key : ∀ n s t, R s t → m s = n → ∃ r r', loopM f s = some r ∧ loopM g t = some r' ∧ Q r r' := by
    intro n
    induction n using Nat.strongRecOn with
    | _ n ih =>
      intro s t hs hm
      rcases h s t hs with ⟨s', t', h1, h2, h3, h4⟩ | h5
      · rw [loopM_eq f, loopM_eq g, h1, h2]
        exact ih (m s') (by omega) s' t' h3 rfl
      · exact h5
  exact key _ s t h0 rfl
/-- The bytes from a to b. -/
def seg (text : ByteArray) (a b : Nat) : List Nat := ((nb text).drop a).take (b - a)
theorem seg_self (text : ByteArray) (a : Nat) : seg text a a = [] := by simp [seg]
theorem seg_app {text : ByteArray} {a b c : Nat} (h1 : a ≤ b) (h2 : b ≤ c) : seg text a b ++ seg text b c = seg text a c := by
  unfold seg
  rw [show c - a = (b - a) + (c - b) by omega, List.take_add, List.drop_drop]
  congr 3
  omega
theorem seg_extract (text : ByteArray) (a b : Nat) : nb (text.extract a b) = seg text a b := nb_extract text a b
/-- Both at one place. -/
structure Sim (text : ByteArray) (s : T_impl_scanner) (c : T_spec_l08Cur) : Prop where
  st : s.text = text
  ct : c.text = text
  bad : s.bad = c.bad
  at_ : ∃ a b : Nat, s.at_ = a ∧ c.at_ = b ∧ a ≤ text.size ∧ b ≤ text.size ∧ (s.bad = false → a = b)
/-- What was read. -/
def Rd (text : ByteArray) (s s' : T_impl_scanner) (l : List Nat) : Prop := ∃ a b : Nat, s.at_ = a ∧ s'.at_ = b ∧ a ≤ b ∧ b ≤ text.size ∧ seg text a b = l
theorem Rd.trans {text : ByteArray} {s1 s2 s3 : T_impl_scanner} {l m : List Nat} (h : Rd text s1 s2 l) (k : Rd text s2 s3 m) : Rd text s1 s3 (l ++ m) := by
  obtain ⟨a, b, h1, h2, h3, h4, h5⟩ := h
  obtain ⟨b', c, k1, k2, k3, k4, k5⟩ := k
  have : b = b' := by omega
  subst this
  exact ⟨a, c, h1, k2, by omega, k4, by rw [← seg_app h3 k3, h5, k5]⟩
theorem Rd.refl {text : ByteArray} {s : T_impl_scanner} {a : Nat} (h : s.at_ = a) (h2 : a ≤ text.size) : Rd text s s [] := ⟨a, a, h, h, Nat.le_refl _, h2, seg_self text a⟩
section
variable {text : ByteArray} (ht : text.size ≤ 60000)
theorem num_sim (ht : text.size ≤ 60000) {s : T_impl_scanner} {c : T_spec_l08Cur} (h : Sim text s c) : ∃ (n : Nat) (s' : T_impl_scanner) (m : Nat), impl_scanner_number s = some ((n : Int), s') ∧ n ≤ 1000000000 ∧ (s'.bad = true → n = 0) ∧
    (∀ most : Nat, most ≤ 1000000000 → ∃ c', spec_l08Var c (most : Int) = some (((if n ≤ most then n else 0 : Nat) : Int), c') ∧ (n ≤ most → Sim text s' c') ∧ (¬ n ≤ most → c'.bad = true ∧ c'.text = text ∧ ∃ b : Nat, c'.at_ = b ∧ b ≤ text.size)) ∧
    (∃ a : Nat, s'.at_ = a ∧ a ≤ text.size) ∧ s'.text = text ∧ (s'.bad = false → s.bad = false ∧ Rd text s s' (encL n)) := by
  obtain ⟨st, sa, sb⟩ := s
  obtain ⟨ct, ca, cb⟩ := c
  obtain ⟨h1, h2, h3, a, b, h4, h5, h6, h7, h8⟩ := h
  simp only at h1 h2 h3 h4 h5 h8
  subst h3 h4 h5
  obtain rfl : ct = st := h2.trans h1.symm
  subst h1
  obtain ⟨n, next, ok, g1, g2, g3, g4⟩ := readVar_eq (text := ct) (by omega) h6
  cases sb with
  | true =>
    refine ⟨0, ⟨ct, a, true⟩, 0, ?_, by omega, fun _ => rfl, ?_, ⟨a, rfl, h6⟩, rfl, fun h => by cases h⟩
    · unfold impl_scanner_number
      simp only [g1, Option.bind_some, if_true]
      rfl
    · intro most hm
      obtain ⟨n', next', ok', g1', g2', g3', g4'⟩ := readVar_eq (text := ct) (by omega) h7
      refine ⟨⟨ct, b, true⟩, ?_, fun _ => ⟨rfl, rfl, rfl, a, b, rfl, rfl, h6, h7, fun h => by cases h⟩, fun h => by omega⟩
      unfold spec_l08Var
      simp only [g2', Option.bind_some, if_true]
      simp
  | false =>
    have hab := h8 rfl
    subst hab
    cases ok with
    | false =>
      refine ⟨0, ⟨ct, a, true⟩, 0, ?_, by omega, fun _ => rfl, ?_, ⟨a, rfl, h6⟩, rfl, fun h => by cases h⟩
      · unfold impl_scanner_number
        simp only [g1, Option.bind_some, Bool.false_eq_true, if_false, Bool.not_false, if_true]
        rfl
      · intro most hm
        refine ⟨⟨ct, a, true⟩, ?_, fun _ => ⟨rfl, rfl, rfl, a, a, rfl, rfl, h6, h6, fun h => by cases h⟩, fun h => by omega⟩
        unfold spec_l08Var
        simp only [g2, Option.bind_some, Bool.false_eq_true, if_false, Bool.not_false, if_true]
        simp
    | true =>
      obtain ⟨g5, g6, g7⟩ := g4 rfl
      refine ⟨n, ⟨ct, next, false⟩, 0, ?_, g3, (fun h => by cases h), ?_, ⟨next, rfl, g6⟩, rfl, fun _ => ⟨rfl, a, next, rfl, rfl, by omega, g6, g7⟩⟩
      · unfold impl_scanner_number
        simp only [g1, Option.bind_some, Bool.false_eq_true, if_false, Bool.not_true]
      · intro most hm
        unfold spec_l08Var
        simp only [g2, Option.bind_some, Bool.false_eq_true, if_false, Bool.not_true]
        by_cases q : n ≤ most
        · have d : decide ((n : Int) > (most : Int)) = false := decide_eq_false (by omega)
          simp only [d, Bool.false_eq_true, if_false, if_pos q]
          exact ⟨_, rfl, fun _ => ⟨rfl, rfl, rfl, next, next, rfl, rfl, g6, g6, fun _ => rfl⟩, fun h => absurd q h⟩
        · have d : decide ((n : Int) > (most : Int)) = true := decide_eq_true (by omega)
          simp only [d, if_true, if_neg q]
          exact ⟨_, rfl, fun h => absurd h q, fun _ => ⟨rfl, rfl, a, rfl, h6⟩⟩
/-- A number. -/
theorem number_sim (ht : text.size ≤ 60000) {s : T_impl_scanner} {c : T_spec_l08Cur} (h : Sim text s c) : ∃ (n : Nat) (s' : T_impl_scanner) (c' : T_spec_l08Cur), impl_scanner_number s = some ((n : Int), s') ∧ spec_l08Var c 1000000000 = some ((n : Int), c') ∧ Sim text s' c' ∧ n ≤ 1000000000 ∧
    (s'.bad = false → s.bad = false ∧ Rd text s s' (encL n)) := by
  obtain ⟨n, s', _, h1, h2, h3, h4, h5, h6, h7⟩ := num_sim ht h
  obtain ⟨c', g1, g2, g3⟩ := h4 1000000000 (by omega)
  rw [if_pos h2] at g1
  exact ⟨n, s', c', h1, g1, g2 h2, h2, h7⟩
/-- How many there are. -/
theorem count_sim (ht : text.size ≤ 60000) {s : T_impl_scanner} {c : T_spec_l08Cur} (h : Sim text s c) {most : Nat} (hm : most ≤ 1000000000) : ∃ (n : Nat) (s' : T_impl_scanner) (c' : T_spec_l08Cur), impl_scanner_count s (most : Int) = some ((n : Int), s') ∧ spec_l08Var c (most : Int) = some ((n : Int), c') ∧ Sim text s' c' ∧ n ≤ most ∧
    (s'.bad = false → s.bad = false ∧ Rd text s s' (encL n)) := by
  obtain ⟨n, s', _, h1, h2, h3, h4, ⟨a, h5, h5'⟩, h6, h7⟩ := num_sim ht h
  obtain ⟨c', g1, g2, g3⟩ := h4 most hm
  unfold impl_scanner_count
  rw [show T_impl_scanner.mk s.text s.at_ s.bad = s from rfl, h1]
  simp only [Option.bind_some]
  by_cases q : n ≤ most
  · have d : decide ((n : Int) > (most : Int)) = false := decide_eq_false (by omega)
    rw [if_pos q] at g1
    simp only [d, Bool.false_eq_true, if_false]
    exact ⟨n, s', c', rfl, g1, g2 q, q, h7⟩
  · have d : decide ((n : Int) > (most : Int)) = true := decide_eq_true (by omega)
    rw [if_neg q] at g1
    obtain ⟨k1, k2, b, k3, k4⟩ := g3 q
    simp only [d, if_true]
    exact ⟨0, _, c', rfl, g1, ⟨h6, k2, k1.symm, a, b, h5, k3, h5', k4, fun h => by cases h⟩, by omega, fun h => by cases h⟩
/-- Some bytes. -/
theorem take_sim (ht : text.size ≤ 60000) {s : T_impl_scanner} {c : T_spec_l08Cur} (h : Sim text s c) {n : Nat} (hn : n ≤ 1000000000) : ∃ (t : ByteArray) (s' : T_impl_scanner) (c' : T_spec_l08Cur), impl_scanner_take s (n : Int) = some (t, s') ∧ spec_l08Take c (n : Int) = some (t, c') ∧ Sim text s' c' ∧
    (s'.bad = false → s.bad = false ∧ t.size = n ∧ Rd text s s' (nb t)) ∧ (s.bad = true → t = ByteArray.mk #[]) ∧ (∀ a : Nat, s.at_ = a → n + a ≤ text.size → s.bad = false → s'.bad = false ∧ s'.at_ = ((a + n : Nat) : Int) ∧ t = text.extract a (a + n)) ∧ (∀ a : Nat, s.at_ = a → ¬ n + a ≤ text.size → t = ByteArray.mk #[] ∧ s'.bad = true) := by
  obtain ⟨st, sa, sb⟩ := s
  obtain ⟨ct, ca, cb⟩ := c
  obtain ⟨h1, h2, h3, a, b, h4, h5, h6, h7, h8⟩ := h
  simp only at h1 h2 h3 h4 h5 h8
  subst h3 h4 h5
  obtain rfl : ct = st := h2.trans h1.symm
  subst h1
  have bi : impl_scanner_take ⟨ct, (a : Int), true⟩ (n : Int) = some (ByteArray.mk #[], ⟨ct, (a : Int), true⟩) := by
    unfold impl_scanner_take
    simp only [if_true, Option.bind_some]
  have bs : spec_l08Take ⟨ct, (b : Int), true⟩ (n : Int) = some (ByteArray.mk #[], ⟨ct, (b : Int), true⟩) := by
    unfold spec_l08Take
    simp only [if_true, Option.bind_some]
  cases sb with
  | true =>
    rw [bi, bs]
    exact ⟨_, _, _, rfl, rfl, ⟨rfl, rfl, rfl, a, b, rfl, rfl, h6, h7, fun h => by cases h⟩, (fun h => by cases h), (fun _ => rfl), (fun _ _ _ h => by cases h), fun _ _ _ => ⟨rfl, rfl⟩⟩
  | false =>
    have hab := h8 rfl
    subst hab
    have e1 : wk .i64 ((ct.size : Int) - (a : Int)) = ((ct.size - a : Nat) : Int) := by rw [wk64 (by omega) (by omega)]; omega
    by_cases q : n + a ≤ ct.size
    · have d : decide ((n : Int) > ((ct.size - a : Nat) : Int)) = false := decide_eq_false (by omega)
      have e2 : wk .i64 ((a : Int) + (n : Int)) = ((a + n : Nat) : Int) := by rw [wk64 (by omega) (by omega)]; omega
      have e3 : wk .i64 (((a + n : Nat) : Int) - (n : Int)) = (a : Int) := by rw [wk64 (by omega) (by omega)]; omega
      have hi : impl_scanner_take ⟨ct, (a : Int), false⟩ (n : Int) = some (ct.extract a (a + n), ⟨ct, ((a + n : Nat) : Int), false⟩) := by
        unfold impl_scanner_take
        simp only [e1, d, e2, e3, Bool.false_eq_true, if_false, Option.bind_some]
        rw [sub2_in (by omega) (by omega) (by omega)]
        rfl
      have hs : spec_l08Take ⟨ct, (a : Int), false⟩ (n : Int) = some (ct.extract a (a + n), ⟨ct, ((a + n : Nat) : Int), false⟩) := by
        unfold spec_l08Take
        simp only [e1, d, e2, e3, Bool.false_eq_true, if_false, Option.bind_some]
        rw [sub2_in (by omega) (by omega) (by omega)]
        rfl
      rw [hi, hs]
      refine ⟨_, _, _, rfl, rfl, ⟨rfl, rfl, rfl, a + n, a + n, rfl, rfl, by omega, by omega, fun _ => rfl⟩, fun _ => ⟨rfl, ?_, a, a + n, rfl, rfl, by omega, by omega, (seg_extract ct a (a + n)).symm⟩, (fun h => by cases h), ?_, ?_⟩
      · rw [ByteArray.size_extract]
        omega
      · intro a' ha' _ _
        have : a = a' := by simp only at ha'; omega
        subst this
        exact ⟨rfl, rfl, rfl⟩
      · intro a' ha' hq
        have : a = a' := by simp only at ha'; omega
        subst this
        exact absurd q hq
    · have d : decide ((n : Int) > ((ct.size - a : Nat) : Int)) = true := decide_eq_true (by omega)
      have hi : impl_scanner_take ⟨ct, (a : Int), false⟩ (n : Int) = some (ByteArray.mk #[], ⟨ct, (a : Int), true⟩) := by
        unfold impl_scanner_take
        simp only [e1, d, Bool.false_eq_true, if_false, if_true, Option.bind_some]
      have hs : spec_l08Take ⟨ct, (a : Int), false⟩ (n : Int) = some (ByteArray.mk #[], ⟨ct, (a : Int), true⟩) := by
        unfold spec_l08Take
        simp only [e1, d, Bool.false_eq_true, if_false, if_true, Option.bind_some]
      rw [hi, hs]
      refine ⟨_, _, _, rfl, rfl, ⟨rfl, rfl, rfl, a, a, rfl, rfl, h6, h6, fun h => by cases h⟩, (fun h => by cases h), (fun h => by cases h), ?_, fun _ _ _ => ⟨rfl, rfl⟩⟩
      intro a' ha' hq _
      have : a = a' := by simp only at ha'; omega
      subst this
      exact absurd hq q
/-- A text that its length stands ahead of. -/
theorem short_sim (ht : text.size ≤ 60000) {s : T_impl_scanner} {c : T_spec_l08Cur} (h : Sim text s c) : ∃ (t : ByteArray) (s' : T_impl_scanner) (c' : T_spec_l08Cur), impl_scanner_short s = some (t, s') ∧ spec_l08Short c = some (t, c') ∧ Sim text s' c' ∧ t.size ≤ 60000 ∧
    (s'.bad = false → s.bad = false ∧ Rd text s s' (encL t.size ++ nb t)) := by
  obtain ⟨st, sa, sb⟩ := s
  obtain ⟨ct, ca, cb⟩ := c
  obtain ⟨h1, h2, h3, a, b, h4, h5, h6, h7, h8⟩ := h
  simp only at h1 h2 h3 h4 h5 h8
  subst h3 h4 h5
  obtain rfl : ct = st := h2.trans h1.symm
  subst h1
  obtain ⟨n, next, ok, g1, g2, g3, g4⟩ := readVar_eq (text := ct) (by omega) h6
  have es : (ByteArray.mk #[]).size ≤ 60000 := by decide
  cases sb with
  | true =>
    obtain ⟨n', next', ok', g1', g2', g3', g4'⟩ := readVar_eq (text := ct) (by omega) h7
    refine ⟨ByteArray.mk #[], ⟨ct, a, true⟩, ⟨ct, b, true⟩, ?_, ?_, ⟨rfl, rfl, rfl, a, b, rfl, rfl, h6, h7, fun h => by cases h⟩, es, fun h => by cases h⟩
    · unfold impl_scanner_short impl_scanner_number
      simp only [g1, Option.bind_some, if_true]
      rw [ifF (by simp)]
      unfold impl_scanner_short_j1 impl_scanner_take
      simp only [if_true, Option.bind_some]
    · unfold spec_l08Short spec_ReadShort
      simp only [g2', Option.bind_some, if_true]
      cases ok' with
      | false => simp only [Bool.not_false, if_true, Option.bind_some]
      | true =>
        obtain ⟨g5, g6, g7⟩ := g4' rfl
        simp only [Bool.not_true, Bool.false_eq_true, if_false, Option.bind_some]
        have e1 : wk .i64 ((ct.size : Int) - (next' : Int)) = ((ct.size - next' : Nat) : Int) := by rw [wk64 (by omega) (by omega)]; omega
        have e2 : wk .i64 ((next' : Int) + (n' : Int)) = ((next' + n' : Nat) : Int) := by rw [wk64 (by omega) (by omega)]; omega
        rw [e1, e2]
        by_cases q : n' > 60000 ∨ n' + next' > ct.size
        · have d : (if decide ((n' : Int) > 60000) = true then some true else some (decide ((n' : Int) > ((ct.size - next' : Nat) : Int)))) = some true := by
            by_cases q1 : n' > 60000
            · rw [ifT (by simp; omega)]
            · rw [ifF (by simp; omega), decide_eq_true (by omega)]
          rw [d]
          simp only [Option.bind_some, if_true]
        · have d : (if decide ((n' : Int) > 60000) = true then some true else some (decide ((n' : Int) > ((ct.size - next' : Nat) : Int)))) = some false := by
            rw [ifF (by simp; omega), decide_eq_false (by omega)]
          rw [d]
          simp only [Option.bind_some, Bool.false_eq_true, if_false]
          rw [sub2_in (by omega) (by omega) (by omega)]
          simp only [Option.bind_some, if_true]
  | false =>
    have hab := h8 rfl
    subst hab
    cases ok with
    | false =>
      refine ⟨ByteArray.mk #[], ⟨ct, a, true⟩, ⟨ct, a, true⟩, ?_, ?_, ⟨rfl, rfl, rfl, a, a, rfl, rfl, h6, h7, fun h => by cases h⟩, es, fun h => by cases h⟩
      · unfold impl_scanner_short impl_scanner_number
        simp only [g1, Option.bind_some, Bool.false_eq_true, if_false, Bool.not_false, if_true]
        rw [ifF (by simp)]
        unfold impl_scanner_short_j1 impl_scanner_take
        simp only [if_true, Option.bind_some]
      · unfold spec_l08Short spec_ReadShort
        simp only [g2, Option.bind_some, if_true, Bool.not_false, Bool.false_eq_true, if_false]
    | true =>
      obtain ⟨g5, g6, g7⟩ := g4 rfl
      have e1 : wk .i64 ((ct.size : Int) - (next : Int)) = ((ct.size - next : Nat) : Int) := by rw [wk64 (by omega) (by omega)]; omega
      have e2 : wk .i64 ((next : Int) + (n : Int)) = ((next + n : Nat) : Int) := by rw [wk64 (by omega) (by omega)]; omega
      have e3 : wk .i64 (((next + n : Nat) : Int) - (n : Int)) = (next : Int) := by rw [wk64 (by omega) (by omega)]; omega
      have hi : impl_scanner_short ⟨ct, (a : Int), false⟩ = if n > 60000 ∨ n + next > ct.size then some (ByteArray.mk #[], ⟨ct, (next : Int), true⟩) else some (ct.extract next (next + n), ⟨ct, ((next + n : Nat) : Int), false⟩) := by
        unfold impl_scanner_short impl_scanner_number
        simp only [g1, Option.bind_some, Bool.false_eq_true, if_false, Bool.not_true]
        unfold impl_scanner_short_j1 impl_scanner_take
        by_cases q1 : n > 60000
        · rw [ifT (by simp; omega), if_pos (c := n > 60000 ∨ n + next > ct.size) (.inl q1)]
          simp only [if_true, Option.bind_some]
        · rw [ifF (by simp; omega)]
          simp only [Bool.false_eq_true, if_false, Option.bind_some, e1, e2, e3]
          by_cases q2 : n + next > ct.size
          · rw [decide_eq_true (by omega), if_pos (c := n > 60000 ∨ n + next > ct.size) (.inr q2)]
            simp only [if_true, Option.bind_some]
          · rw [decide_eq_false (by omega), if_neg (c := n > 60000 ∨ n + next > ct.size) (by omega)]
            simp only [Bool.false_eq_true, if_false]
            rw [sub2_in (by omega) (by omega) (by omega)]
            rfl
      have hs : spec_l08Short ⟨ct, (a : Int), false⟩ = if n > 60000 ∨ n + next > ct.size then some (ByteArray.mk #[], ⟨ct, (a : Int), true⟩) else some (ct.extract next (next + n), ⟨ct, ((next + n : Nat) : Int), false⟩) := by
        unfold spec_l08Short spec_ReadShort
        simp only [g2, Option.bind_some, Bool.false_eq_true, if_false, Bool.not_true, e1, e2]
        by_cases q1 : n > 60000 ∨ n + next > ct.size
        · have d : (if decide ((n : Int) > 60000) = true then some true else some (decide ((n : Int) > ((ct.size - next : Nat) : Int)))) = some true := by
            by_cases q1 : n > 60000
            · rw [ifT (by simp; omega)]
            · rw [ifF (by simp; omega), decide_eq_true (by omega)]
          rw [d, if_pos (c := n > 60000 ∨ n + next > ct.size) q1]
          simp only [Option.bind_some, if_true, Bool.not_false]
        · have d : (if decide ((n : Int) > 60000) = true then some true else some (decide ((n : Int) > ((ct.size - next : Nat) : Int)))) = some false := by
            rw [ifF (by simp; omega), decide_eq_false (by omega)]
          rw [d, if_neg (c := n > 60000 ∨ n + next > ct.size) q1]
          simp only [Option.bind_some, Bool.false_eq_true, if_false]
          rw [sub2_in (by omega) (by omega) (by omega)]
          simp only [Option.bind_some, Bool.not_true, Bool.false_eq_true, if_false]
          rfl
      rw [hi, hs]
      by_cases q : n > 60000 ∨ n + next > ct.size
      · rw [if_pos q, if_pos q]
        exact ⟨_, _, _, rfl, rfl, ⟨rfl, rfl, rfl, next, a, rfl, rfl, g6, h6, fun h => by cases h⟩, es, fun h => by cases h⟩
      · rw [if_neg q, if_neg q]
        have hsz : (ct.extract next (next + n)).size = n := by rw [ByteArray.size_extract]; omega
        refine ⟨_, _, _, rfl, rfl, ⟨rfl, rfl, rfl, next + n, next + n, rfl, rfl, by omega, by omega, fun _ => rfl⟩, by omega, fun _ => ⟨rfl, ?_⟩⟩
        rw [hsz, seg_extract]
        refine Rd.trans (s2 := ⟨ct, next, false⟩) ⟨a, next, rfl, rfl, by omega, g6, g7⟩ ⟨next, next + n, rfl, rfl, by omega, by omega, rfl⟩
end
end Go.TV.F
/- Plain Lean: lists of items read, side by side. -/
namespace Go.TV.F
open Go.TV
theorem items_sim {text : ByteArray} {α : Type} {I : T_impl_scanner → Option (α × T_impl_scanner)} {G : T_spec_l08Cur → Option (α × T_spec_l08Cur)} (enc : α → List Nat) (P P2 : α → Prop)
    (hit : ∀ s c, Sim text s c → ∃ x s' y c', I s = some (x, s') ∧ G c = some (y, c') ∧ Sim text s' c' ∧ P2 y ∧ (s'.bad = false → x = y ∧ P x ∧ s.bad = false ∧ Rd text s s' (enc x)))
    {n : Nat} {f : Int × ByteArray × Int × Bool × List α → Option ((Int × ByteArray × Int × Bool × List α) ⊕ (ByteArray × Int × Bool × List α))} {g : Int × ByteArray × Int × Bool × List α → Option ((Int × ByteArray × Int × Bool × List α) ⊕ (ByteArray × Int × Bool × List α))}
    (hf : ∀ (k : Nat) (t : ByteArray) (a : Int) (b : Bool) (out : List α), k < n → out.length = k → f ((k : Int), t, a, b, out) = (I ⟨t, a, b⟩).bind fun r => some (.inl (((k + 1 : Nat) : Int), r.2.text, r.2.at_, r.2.bad, out ++ [r.1])))
    (hf0 : ∀ (t : ByteArray) (a : Int) (b : Bool) (out : List α), f ((n : Int), t, a, b, out) = some (.inr (t, a, b, out)))
    (hg : ∀ (k : Nat) (t : ByteArray) (a : Int) (out : List α), k < n → out.length = k → g ((k : Int), t, a, false, out) = (G ⟨t, a, false⟩).bind fun r => some (.inl (((k + 1 : Nat) : Int), r.2.text, r.2.at_, r.2.bad, out ++ [r.1])))
    (hg0 : ∀ (k : Nat) (t : ByteArray) (a : Int) (out : List α), k ≤ n → g ((k : Int), t, a, true, out) = some (.inr (t, a, true, out)))
    (hg1 : ∀ (t : ByteArray) (a : Int) (b : Bool) (out : List α), g ((n : Int), t, a, b, out) = some (.inr (t, a, b, out)))
    {s : T_impl_scanner} {c : T_spec_l08Cur} (h : Sim text s c) :
    ∃ s' l c' l', loopM f (0, s.text, s.at_, s.bad, []) = some (s'.text, s'.at_, s'.bad, l) ∧ loopM g (0, c.text, c.at_, c.bad, []) = some (c'.text, c'.at_, c'.bad, l') ∧ Sim text s' c' ∧ l'.length ≤ n ∧ (∀ y ∈ l', P2 y) ∧
      (s'.bad = false → l = l' ∧ s.bad = false ∧ l.length = n ∧ (∀ x ∈ l, P x) ∧ Rd text s s' (l.map enc).flatten) := by
  have badrun : ∀ (m k : Nat) (s : T_impl_scanner) (out : List α), k + m = n → out.length = k → s.bad = true → (∃ c, Sim text s c) → ∃ s' l, loopM f ((k : Int), s.text, s.at_, s.bad, out) = some (s'.text, s'.at_, s'.bad, l) ∧ s'.bad = true ∧ ∃ c', Sim text s' c' := by
    intro m
    induction m with
    | zero =>
      intro k s out hk ho hb hc
      have : k = n := by omega
      subst this
      rw [loopM_eq, hf0]
      exact ⟨s, out, rfl, hb, hc⟩
    | succ m ih =>
      intro k s out hk ho hb ⟨c, hc⟩
      obtain ⟨x, s', y, c', h1, h2, h3, _, h4⟩ := hit s c hc
      have hb' : s'.bad = true := by
        cases q : s'.bad with
        | true => rfl
        | false =>
          have := (h4 q).2.2.1
          rw [hb] at this
          cases this
      rw [loopM_eq, hf k _ _ _ _ (by omega) ho, show T_impl_scanner.mk s.text s.at_ s.bad = s from rfl, h1]
      simp only [Option.bind_some]
      exact ih (k + 1) s' (out ++ [x]) (by omega) (by simp [ho]) hb' ⟨c', h3⟩
  have simBad : ∀ {s1 : T_impl_scanner} {c1 c2 : T_spec_l08Cur} {s2 : T_impl_scanner}, Sim text s1 c1 → Sim text s2 c2 → s1.bad = true → s2.bad = true → Sim text s1 c2 := by
    intro s1 c1 c2 s2 h1 h2 b1 b2
    obtain ⟨a1, b1', q1, q2, q3, q4, q5⟩ := h1.at_
    obtain ⟨a2, b2', r1, r2, r3, r4, r5⟩ := h2.at_
    exact ⟨h1.st, h2.ct, by rw [b1, ← h2.bad, b2], a1, b2', q1, r2, q3, r4, fun h => by rw [b1] at h; cases h⟩
  have main : ∀ (m k : Nat) (s : T_impl_scanner) (c : T_spec_l08Cur) (out : List α), k + m = n → out.length = k → Sim text s c → s.bad = false → (∀ x ∈ out, P x) → (∀ x ∈ out, P2 x) → ∃ s' l c' l', loopM f ((k : Int), s.text, s.at_, s.bad, out) = some (s'.text, s'.at_, s'.bad, l) ∧ loopM g ((k : Int), c.text, c.at_, c.bad, out) = some (c'.text, c'.at_, c'.bad, l') ∧ Sim text s' c' ∧ l'.length ≤ n ∧ (∀ y ∈ l', P2 y) ∧
      (s'.bad = false → l = l' ∧ l.length = n ∧ (∀ x ∈ l, P x) ∧ ∃ l2, l = out ++ l2 ∧ Rd text s s' (l2.map enc).flatten) := by
    intro m
    induction m with
    | zero =>
      intro k s c out hk ho hs hb hP hP2
      have : k = n := by omega
      subst this
      rw [loopM_eq, hf0, loopM_eq, hg1]
      obtain ⟨a1, b1', q1, q2, q3, q4, q5⟩ := hs.at_
      exact ⟨s, out, c, out, rfl, rfl, hs, by omega, hP2, fun _ => ⟨rfl, ho, hP, [], by simp, Rd.refl q1 q3⟩⟩
    | succ m ih =>
      intro k s c out hk ho hs hb hP hP2
      have hcb : c.bad = false := by rw [← hs.bad, hb]
      obtain ⟨x, s', y, c', h1, h2, h3, hy2, h4⟩ := hit s c hs
      have hP2' : ∀ z ∈ out ++ [y], P2 z := fun z hz => by
        rcases List.mem_append.1 hz with hz | hz
        · exact hP2 z hz
        · simp at hz
          subst hz
          exact hy2
      rw [loopM_eq, hf k _ _ _ _ (by omega) ho, show T_impl_scanner.mk s.text s.at_ s.bad = s from rfl, h1]
      rw [loopM_eq, hcb, hg k _ _ _ (by omega) ho, show T_spec_l08Cur.mk c.text c.at_ false = c from by cases c with | mk t a b => simp only at hcb; rw [hcb], h2]
      simp only [Option.bind_some]
      cases q : s'.bad with
      | true =>
        have hcb' : c'.bad = true := by rw [← h3.bad, q]
        obtain ⟨s2, l, g1, g2, c2, g3⟩ := badrun m (k + 1) s' (out ++ [x]) (by omega) (by simp [ho]) q ⟨c', h3⟩
        rw [q] at g1
        rw [g1, hcb', loopM_eq, hg0 (k + 1) _ _ _ (by omega)]
        refine ⟨s2, l, c', out ++ [y], rfl, by rw [hcb']; rfl, simBad g3 h3 g2 q, by simp; omega, hP2', fun h => ?_⟩
        rw [g2] at h
        cases h
      | false =>
        obtain ⟨rfl, hPx, _, hr⟩ := h4 q
        obtain ⟨s2, l, c2, l2, g1, g2, g3, g5, g6, g4⟩ := ih (k + 1) s' c' (out ++ [x]) (by omega) (by simp [ho]) h3 q (fun z hz => by
          rcases List.mem_append.1 hz with hz | hz
          · exact hP z hz
          · simp at hz
            subst hz
            exact hPx) hP2'
        rw [q] at g1
        rw [g1, g2]
        refine ⟨s2, l, c2, l2, rfl, rfl, g3, g5, g6, fun h => ?_⟩
        obtain ⟨k1, k2, k3, l3, k4, k5⟩ := g4 h
        refine ⟨k1, k2, k3, x :: l3, by rw [k4]; simp, ?_⟩
        rw [List.map_cons, List.flatten_cons]
        exact hr.trans k5
  cases hb : s.bad with
  | true =>
    have hcb : c.bad = true := by rw [← h.bad, hb]
    obtain ⟨s', l, h1, h2, c', h3⟩ := badrun n 0 s [] (by omega) rfl hb ⟨c, h⟩
    rw [hb] at h1
    have := hg0 0 c.text c.at_ [] (by omega)
    refine ⟨s', l, c, [], h1, ?_, simBad h3 h h2 hb, by simp, (fun _ h => by cases h), fun q => ?_⟩
    · rw [hcb, loopM_eq]
      have e : ((0 : Nat) : Int) = 0 := rfl
      rw [e] at this
      rw [this]
      rfl
    · rw [h2] at q
      cases q
  | false =>
    obtain ⟨s', l, c', l', h1, h2, h3, h5, h6, h4⟩ := main n 0 s c [] (by omega) rfl h hb (fun _ h => by cases h) (fun _ h => by cases h)
    rw [hb] at h1
    refine ⟨s', l, c', l', h1, h2, h3, h5, h6, fun q => ?_⟩
    obtain ⟨k1, k2, k3, l3, k4, k5⟩ := h4 q
    rw [List.nil_append] at k4
    subst k4
    exact ⟨k1, rfl, k2, k3, k5⟩
end Go.TV.F
/- Plain Lean: names of an intent. -/
set_option maxRecDepth 100000
namespace Go.TV.F
open Go.TV
theorem fileName_all (k : Nat) (hk : k < 12) : ∃ t, impl_FileName (k : Int) = some t ∧ spec_FileName (k : Int) = some t := by
  have one : ∀ (n : Nat) (d : UInt8), n < 10 → n ≠ 0 → spec_Decimal_l1 (n : Int) (ByteArray.mk #[]) = some (.inl (0, ByteArray.mk #[d])) → spec_Decimal (n : Int) = some (ByteArray.mk #[d]) := fun n d hn h0 h => by
    unfold spec_Decimal
    rw [ifF (by simp; omega), loopM_eq, h]
    simp only [Option.bind_some]
    rw [loopM_eq]
    rw [show spec_Decimal_l1 0 (ByteArray.mk #[d]) = some (.inr (ByteArray.mk #[d])) from rfl]
    simp only [Option.bind_some]
    unfold spec_Decimal_j1
    rw [ifF (by simp)]
  have two : ∀ (n : Nat) (d c : UInt8), 0 < n → spec_Decimal_l1 (n : Int) (ByteArray.mk #[]) = some (.inl (1, ByteArray.mk #[d])) → spec_Decimal_l1 1 (ByteArray.mk #[d]) = some (.inl (0, ByteArray.mk #[c, d])) → spec_Decimal (n : Int) = some (ByteArray.mk #[c, d]) := fun n d c h0 h h' => by
    unfold spec_Decimal
    rw [ifF (by simp; omega), loopM_eq, h]
    simp only [Option.bind_some]
    rw [loopM_eq, h']
    simp only [Option.bind_some]
    rw [loopM_eq]
    rw [show spec_Decimal_l1 0 (ByteArray.mk #[c, d]) = some (.inr (ByteArray.mk #[c, d])) from rfl]
    simp only [Option.bind_some]
    unfold spec_Decimal_j1
    rw [ifF (by simp)]
  have fin : ∀ (n : Nat) (t : ByteArray), spec_l01In (n : Int) 0 11 = some true → spec_Decimal (n : Int) = some t → t.size ≤ 100 → impl_FileName (n : Int) = some (ByteArray.mk #[119] ++ t) → ∃ t, impl_FileName (n : Int) = some t ∧ spec_FileName (n : Int) = some t := fun n t h1 h2 h4 h3 => by
    refine ⟨_, h3, ?_⟩
    unfold spec_FileName
    rw [h1, Option.bind_some, ifF (by simp), h2, Option.bind_some, sapp_in (by have : (ByteArray.mk #[119]).size = 1 := rfl; omega)]
    rfl
  have hk' : k = 0 ∨ k = 1 ∨ k = 2 ∨ k = 3 ∨ k = 4 ∨ k = 5 ∨ k = 6 ∨ k = 7 ∨ k = 8 ∨ k = 9 ∨ k = 10 ∨ k = 11 := by omega
  rcases hk' with rfl | rfl | rfl | rfl | rfl | rfl | rfl | rfl | rfl | rfl | rfl | rfl
  · exact fin 0 (ByteArray.mk #[48]) rfl rfl (by decide) rfl
  · exact fin 1 (ByteArray.mk #[49]) rfl (one 1 49 (by omega) (by omega) rfl) (by decide) rfl
  · exact fin 2 (ByteArray.mk #[50]) rfl (one 2 50 (by omega) (by omega) rfl) (by decide) rfl
  · exact fin 3 (ByteArray.mk #[51]) rfl (one 3 51 (by omega) (by omega) rfl) (by decide) rfl
  · exact fin 4 (ByteArray.mk #[52]) rfl (one 4 52 (by omega) (by omega) rfl) (by decide) rfl
  · exact fin 5 (ByteArray.mk #[53]) rfl (one 5 53 (by omega) (by omega) rfl) (by decide) rfl
  · exact fin 6 (ByteArray.mk #[54]) rfl (one 6 54 (by omega) (by omega) rfl) (by decide) rfl
  · exact fin 7 (ByteArray.mk #[55]) rfl (one 7 55 (by omega) (by omega) rfl) (by decide) rfl
  · exact fin 8 (ByteArray.mk #[56]) rfl (one 8 56 (by omega) (by omega) rfl) (by decide) rfl
  · exact fin 9 (ByteArray.mk #[57]) rfl (one 9 57 (by omega) (by omega) rfl) (by decide) rfl
  · exact fin 10 (ByteArray.mk #[49, 48]) rfl (two 10 48 49 (by omega) rfl rfl) (by decide) rfl
  · exact fin 11 (ByteArray.mk #[49, 49]) rfl (two 11 49 49 (by omega) rfl rfl) (by decide) rfl
noncomputable def fnm (k : Nat) : ByteArray := (spec_FileName (k : Int)).getD (ByteArray.mk #[])
theorem fnm_I {k : Nat} (hk : k < 12) : impl_FileName (k : Int) = some (fnm k) := by
  obtain ⟨t, h1, h2⟩ := fileName_all k hk
  unfold fnm
  rw [h1, h2]
  rfl
theorem fnm_S {k : Nat} (hk : k < 12) : spec_FileName (k : Int) = some (fnm k) := by
  obtain ⟨t, h1, h2⟩ := fileName_all k hk
  unfold fnm
  rw [h2]
  rfl
noncomputable def isNm (x : ByteArray) : Bool := (x.toList == (ByteArray.mk #[99, 111, 109, 109, 105, 116, 115]).toList) || !((List.range 12).all fun k => !(x.toList == (fnm k).toList))
theorem isNmI_eq (x : ByteArray) : impl_isImageName x = some (isNm x) := by
  unfold impl_isImageName isNm
  cases h : x.toList == (ByteArray.mk #[99, 111, 109, 109, 105, 116, 115]).toList with
  | true => rfl
  | false =>
    rw [ifF (by simp)]
    have := loopM_all (body := fun s' => impl_isImageName_l1 x s') (good := .inr ()) (bad := .inl true) (fun k => (k : Int)) 12 (fun k => !(x.toList == (fnm k).toList)) (fun k hk _ hp => by
      unfold impl_isImageName_l1
      rw [ifT (by simp; omega), fnm_I hk, Option.bind_some, Bool.beq_comm, ifF (by simpa using hp), wk64 (by omega) (by omega)]
      rfl) (fun k hk _ hp => by
      unfold impl_isImageName_l1
      rw [ifT (by simp; omega), fnm_I hk, Option.bind_some, Bool.beq_comm, ifT (by simpa using hp)]) (fun _ => by
      unfold impl_isImageName_l1
      rw [ifF (by simp)])
    have e0 : ((0 : Nat) : Int) = 0 := rfl
    rw [e0] at this
    rw [this]
    cases (List.range 12).all fun k => !(x.toList == (fnm k).toList) <;> rfl
theorem isNmS_eq (x : ByteArray) : spec_l18IsName x = some (isNm x) := by
  unfold spec_l18IsName isNm
  have := loopM_all (body := fun s' => spec_l18IsName_l1 x s') (good := .inr ()) (bad := .inl true) (fun k => (k : Int)) 12 (fun k => !(x.toList == (fnm k).toList)) (fun k hk _ hp => by
    unfold spec_l18IsName_l1
    rw [ifT (by simp; omega), fnm_S hk, Option.bind_some, ifF (by simpa using hp), wk64 (by omega) (by omega)]
    rfl) (fun k hk _ hp => by
    unfold spec_l18IsName_l1
    rw [ifT (by simp; omega), fnm_S hk, Option.bind_some, ifT (by simpa using hp)]) (fun _ => by
    unfold spec_l18IsName_l1
    rw [ifF (by simp)])
  have e0 : ((0 : Nat) : Int) = 0 := rfl
  rw [e0] at this
  rw [this]
  unfold spec_l18IsName_j1
  cases (List.range 12).all fun k => !(x.toList == (fnm k).toList) <;> simp
theorem bl_tri : ∀ a b : List UInt8, (Op.bytesLess a b || a == b) = !Op.bytesLess b a
  | [], [] => rfl
  | [], b :: y => rfl
  | a :: x, [] => rfl
  | a :: x, b :: y => by
    have ih := bl_tri x y
    simp only [Op.bytesLess]
    rcases Nat.lt_trichotomy a.toNat b.toNat with h | h | h
    · have h1 : a < b := h
      have h2 : ¬ b < a := fun q => by have q' : b.toNat < a.toNat := q; omega
      have h3 : ¬ b = a := fun q => by subst q; omega
      simp [h1, h2, h3]
    · have h3 : a = b := UInt8.toNat_inj.1 h
      subst h3
      have h1 : ¬ a < a := fun q => by have q' : a.toNat < a.toNat := q; omega
      simp [h1]
      rw [← ih]
      try (cases Op.bytesLess x y <;> simp)
    · have h1 : b < a := h
      have h2 : ¬ a < b := fun q => by have q' : a.toNat < b.toNat := q; omega
      have h3 : ¬ a = b := fun q => by subst q; omega
      simp [h1, h2, h3]
def e0 : ByteArray := ByteArray.mk #[]
noncomputable def nmAt (l : List ByteArray) (i : Nat) : Bool := isNm (l.getD i e0) && (i == 0 || Op.bytesLess (l.getD (i - 1) e0).toList (l.getD i e0).toList)
noncomputable def okNms (l : List ByteArray) : Bool := (List.range l.length).all (nmAt l)
theorem getD_in {α : Type} {l : List α} {i : Nat} {d : α} (h : i < l.length) : l.getD i d = l[i] := by
  rw [List.getD_eq_getElem?_getD, List.getElem?_eq_getElem h]
  rfl
theorem intentOk_eq {l : List ByteArray} (hl : l.length ≤ 13) : impl_intentOk l = some (okNms l) := by
  unfold impl_intentOk okNms
  have cond : ∀ (k : Nat) (hk : k < l.length), ((if (!isNm l[k]) = true then some true else (if (decide ((k : Int) > 0)) = true then (geti l (wk .i64 ((k : Int) - 1))).bind fun x_1 => some (Op.bytesLess l[k].toList x_1.toList || l[k].toList == x_1.toList) else some false).bind fun b_1 => some b_1)) = some (!nmAt l k) := fun k hk => by
    unfold nmAt
    rw [getD_in hk]
    cases isNm l[k] with
    | false => rfl
    | true =>
      simp only [Bool.not_true, Bool.false_eq_true, if_false, Bool.true_and]
      by_cases q : k = 0
      · subst q
        rfl
      · rw [ifT (by simp; omega), wk64 (by omega) (by omega), geti_in (by omega) (by omega)]
        simp only [Option.bind_some]
        have e : ((k : Int) - 1).toNat = k - 1 := by omega
        have q' : (k == 0) = false := by simpa using q
        rw [bl_tri, q', getD_in (show k - 1 < l.length by omega)]
        simp only [e, Bool.false_or]
  have := loopM_all (body := fun s' => impl_intentOk_l1 l s') (good := .inr ()) (bad := .inl false) (fun k => (k : Int)) l.length (nmAt l) (fun k hk _ hp => by
    unfold impl_intentOk_l1
    rw [ifT (by simpa using hk), geti_nat, List.getElem?_eq_getElem hk, Option.bind_some, isNmI_eq, Option.bind_some, cond k hk, Option.bind_some, hp, ifF (by simp), wk64 (by omega) (by omega)]
    rfl) (fun k hk _ hp => by
    unfold impl_intentOk_l1
    rw [ifT (by simpa using hk), geti_nat, List.getElem?_eq_getElem hk, Option.bind_some, isNmI_eq, Option.bind_some, cond k hk, Option.bind_some, hp, ifT (by simp)]) (fun _ => by
    unfold impl_intentOk_l1
    rw [ifF (by simp)])
  have ez : ((0 : Nat) : Int) = 0 := rfl
  rw [ez] at this
  rw [this]
  unfold impl_intentOk_j1
  cases (List.range l.length).all (nmAt l) with
  | true =>
    simp
    omega
  | false => rfl
theorem encL_len : ∀ n : Nat, (encL n).length ≤ n + 1 := by
  intro n
  induction n using Nat.strongRecOn with
  | _ n ih =>
    by_cases q : n ≤ 127
    · rw [encL_lo q]
      simp
    · rw [encL_hi q]
      have := ih (n / 128) (by omega)
      simp
      omega
theorem encS_size (n : Nat) : (encS n).size ≤ n + 1 := by
  have := encL_len n
  rw [← nb_len, nb_encS]
  exact this
theorem short_eq {x : ByteArray} (h : x.size ≤ 60000) : spec_l17Short x = some (encS x.size ++ x) := by
  unfold spec_l17Short
  have := encS_size x.size
  rw [l01Var_eq (by omega), Option.bind_some, sapp_in (by omega)]
  rfl
def tiS (l : List ByteArray) : ByteArray := ByteArray.mk #[84, 73, 49] ++ encS l.length
def accS (l : List ByteArray) (k : Nat) : ByteArray := (l.take k).foldl (fun s x => s ++ (encS x.size ++ x)) (tiS l)
theorem accS_succ {l : List ByteArray} {k : Nat} (hk : k < l.length) : accS l (k + 1) = accS l k ++ (encS l[k].size ++ l[k]) := by
  unfold accS
  rw [List.take_add_one, List.getElem?_eq_getElem hk, List.foldl_append]
  rfl
theorem accS_size {l : List ByteArray} (hl : l.length ≤ 13) (hx : ∀ x ∈ l, x.size ≤ 60000) : ∀ k, k ≤ l.length → (accS l k).size ≤ 20 + k * 120010
  | 0, _ => by
    have := encS_size l.length
    show (tiS l).size ≤ _
    unfold tiS
    rw [ByteArray.size_append]
    have : (ByteArray.mk #[84, 73, 49]).size = 3 := rfl
    omega
  | k + 1, h => by
    have ih := accS_size hl hx k (by omega)
    rw [accS_succ (by omega), ByteArray.size_append, ByteArray.size_append]
    have := encS_size (l[k]'(by omega)).size
    have := hx _ (List.getElem_mem (show k < l.length by omega))
    omega
def encNm (l : List ByteArray) : List Nat := encL l.length ++ (l.map fun x => encL x.size ++ nb x).flatten
theorem accS_nb (l : List ByteArray) : nb (accS l l.length) = nb (ByteArray.mk #[84, 73, 49]) ++ encNm l := by
  unfold accS encNm
  rw [List.take_length]
  have key : ∀ (m : List ByteArray) (s : ByteArray), nb (m.foldl (fun s x => s ++ (encS x.size ++ x)) s) = nb s ++ (m.map fun x => encL x.size ++ nb x).flatten := by
    intro m
    induction m with
    | nil => intro s; simp
    | cons x m ih =>
      intro s
      rw [List.foldl_cons, ih, nb_append, nb_append, nb_encS]
      simp
  rw [key]
  unfold tiS
  rw [nb_append, nb_encS]
  simp
theorem intentText_eq {l : List ByteArray} (hl : l.length ≤ 13) (hx : ∀ x ∈ l, x.size ≤ 60000) : spec_IntentText l = if okNms l = true then (spec_Sealed (accS l l.length)).bind fun r => some (r.1, r.2) else some (ByteArray.mk #[], false) := by
  unfold spec_IntentText okNms
  have hsz := accS_size hl hx
  rw [ifF (by simp; omega), l01Var_eq (by omega), Option.bind_some, sapp_in (by have := hsz 0 (by omega); have := encS_size l.length; have : (ByteArray.mk #[84, 73, 49]).size = 3 := rfl; omega), Option.bind_some]
  have cond : ∀ (k : Nat) (hk : k < l.length), ((if (!isNm l[k]) = true then some true else (if (decide ((k : Int) > 0)) = true then (geti l (wk .i64 ((k : Int) - 1))).bind fun x_1 => some (!Op.bytesLess x_1.toList l[k].toList) else some false).bind fun b_1 => some b_1)) = some (!nmAt l k) := fun k hk => by
    unfold nmAt
    rw [getD_in hk]
    cases isNm l[k] with
    | false => rfl
    | true =>
      simp only [Bool.not_true, Bool.false_eq_true, if_false, Bool.true_and]
      by_cases q : k = 0
      · subst q
        rfl
      · rw [ifT (by simp; omega), wk64 (by omega) (by omega), geti_in (by omega) (by omega)]
        simp only [Option.bind_some]
        have e : ((k : Int) - 1).toNat = k - 1 := by omega
        have q' : (k == 0) = false := by simpa using q
        rw [q', getD_in (show k - 1 < l.length by omega)]
        simp only [e, Bool.false_or]
  have := loopM_all (body := fun (s' : ByteArray × Int) => spec_IntentText_l1 l s'.1 s'.2) (good := .inr (accS l l.length)) (bad := .inl (ByteArray.mk #[], false)) (fun k => (accS l k, (k : Int))) l.length (nmAt l) (fun k hk _ hp => by
    show spec_IntentText_l1 l (accS l k) (k : Int) = _
    unfold spec_IntentText_l1
    have hxk := hx _ (List.getElem_mem hk)
    have := hsz k (by omega)
    have := encS_size l[k].size
    rw [ifT (by simpa using hk), geti_nat, List.getElem?_eq_getElem hk, Option.bind_some, isNmS_eq, Option.bind_some, cond k hk, Option.bind_some, hp, ifF (by simp), Option.bind_some, short_eq hxk, Option.bind_some, sapp_in (by rw [ByteArray.size_append]; omega), Option.bind_some, wk64 (by omega) (by omega), accS_succ hk]
    rfl) (fun k hk _ hp => by
    show spec_IntentText_l1 l (accS l k) (k : Int) = _
    unfold spec_IntentText_l1
    rw [ifT (by simpa using hk), geti_nat, List.getElem?_eq_getElem hk, Option.bind_some, isNmS_eq, Option.bind_some, cond k hk, Option.bind_some, hp, ifT (by simp)]) (fun _ => by
    show spec_IntentText_l1 l (accS l l.length) (l.length : Int) = _
    unfold spec_IntentText_l1
    rw [ifF (by simp)])
  have ez : ((0 : Nat) : Int) = 0 := rfl
  simp only [ez] at this
  have e1 : accS l 0 = ByteArray.mk #[84, 73, 49] ++ encS l.length := rfl
  rw [e1] at this
  rw [this]
  unfold spec_IntentText_j1
  cases (List.range l.length).all (nmAt l) with
  | true => rfl
  | false => rfl
end Go.TV.F
/- Plain Lean: ReadIntent is the reference's. -/
namespace Go.TV.F
open Go.TV
theorem wkS (k : Nat) (h : k < 1000000000) : wk .i64 ((k : Int) + 1) = ((k + 1 : Nat) : Int) := by rw [wk64 (by omega) (by omega)]; omega
theorem mark_sim {text : ByteArray} (ht : text.size ≤ 60000) {s : T_impl_scanner} {c : T_spec_l08Cur} (h : Sim text s c) (mark : ByteArray) (hm : mark.size ≤ 100) (hm1 : 0 < mark.size) : ∃ s' t c', impl_scanner_mark s mark = some s' ∧ spec_l08Take c (mark.size : Int) = some (t, c') ∧ (∃ c2, Sim text s' c2) ∧
    ((!(t.toList == mark.toList)) = false → Sim text s' c' ∧ (s'.bad = false → s.bad = false ∧ Rd text s s' (nb mark))) ∧ ((!(t.toList == mark.toList)) = true → s'.bad = true) := by
  obtain ⟨t, s1, c', h1, h2, h3, h4, _⟩ := take_sim ht h (n := mark.size) (by omega)
  unfold impl_scanner_mark
  rw [show T_impl_scanner.mk s.text s.at_ s.bad = s from rfl, h1, h2]
  simp only [Option.bind_some]
  cases q : !(t.toList == mark.toList) with
  | true =>
    simp only [if_true]
    obtain ⟨a, b, g1, g2, g3, g4, g5⟩ := h3.at_
    exact ⟨_, t, c', rfl, rfl, ⟨⟨text, s1.at_, true⟩, h3.st, rfl, rfl, a, a, g1, g1, g3, g3, fun h => by cases h⟩, (fun h => absurd (q.symm.trans h) (by decide)), fun _ => rfl⟩
  | false =>
    simp only [Bool.false_eq_true, if_false]
    refine ⟨_, t, c', rfl, rfl, ⟨c', h3⟩, fun _ => ⟨h3, fun hb => ⟨(h4 hb).1, ?_⟩⟩, fun h => absurd (q.symm.trans h) (by decide)⟩
    have e : nb t = nb mark := by
      rw [beq_nb] at q
      simpa using q
    rw [← e]
    exact (h4 hb).2.2
theorem sum1 {α : Type} (a : List α) : sumOf (fun _ => 1) a = a.length := by
  induction a with
  | nil => rfl
  | cons x l ih => simp [sumOf, ih]; omega
theorem markText_total {k : Nat} (h : k ≤ 1000000000) : ∃ t, laws_markText (k : Int) = some t := by
  unfold laws_markText
  by_cases q : k = 0
  · subst q
    exact ⟨_, rfl⟩
  rw [ifF (by simp; omega)]
  obtain ⟨r, _, h1, _, h2⟩ := loopM_total2 (f := fun (s' : Int × ByteArray) => laws_markText_l1 s'.1 s'.2) (g := fun (s' : Int × ByteArray) => laws_markText_l1 s'.1 s'.2) (fun s t => s = t ∧ ∃ n : Nat, s.1 = n ∧ n + s.2.size ≤ 1000000000) (fun s => s.1.toNat) (fun r _ => r.size ≤ 1000000000)
    (s := ((k : Int), ByteArray.mk #[])) (t := ((k : Int), ByteArray.mk #[])) ⟨rfl, k, rfl, h⟩ (fun s t hs => by
    obtain ⟨rfl, n, h1, h2⟩ := hs
    obtain ⟨x, out⟩ := s
    simp only at h1 h2 ⊢
    subst h1
    unfold laws_markText_l1
    by_cases q : n = 0
    · rw [ifF (by simp; omega)]
      exact .inr ⟨_, _, rfl, rfl, by omega⟩
    · rw [ifT (by simp; omega)]
      generalize hz : mkS [wk .u8 (wk .i64 (48 + ((n : Int)).tmod 10))] = z
      have hzs : z.size = 1 := by rw [← hz, mkS_size]; rfl
      rw [sapp_in (by omega), Option.bind_some, show (10 : Int) = ((10 : Nat) : Int) from rfl, tdiv_nat, wk64 (by omega) (by omega)]
      refine .inl ⟨_, _, rfl, rfl, ⟨rfl, n / 10, rfl, ?_⟩, ?_⟩
      · simp only [ByteArray.size_append]
        omega
      · simp only
        omega)
  rw [h1, Option.bind_some]
  unfold laws_markText_j1
  rw [sapp_in (by have : (ByteArray.mk #[109]).size = 1 := rfl; omega)]
  exact ⟨_, rfl⟩
noncomputable def mT (k : Int) : ByteArray := (laws_markText k).getD (ByteArray.mk #[])
theorem markText_eq {k : Int} (h0 : 0 ≤ k) (h : k ≤ 1000000000) : laws_markText k = some (mT k) := by
  obtain ⟨n, rfl⟩ : ∃ n : Nat, k = n := ⟨k.toNat, by omega⟩
  obtain ⟨t, ht⟩ := markText_total (k := n) (by omega)
  unfold mT
  rw [ht]
  rfl

theorem four_eq {s : ByteArray} (hs : s.size ≤ 1000000000) : ∃ u : ByteArray, u.size = 4 ∧ (∀ t, spec_SumOf s = some t → spec_l02Four t = some u) ∧ (∃ t, spec_SumOf s = some t ∧ spec_l02Four t = some u ∧ impl_sumText s = some u) := by
  obtain ⟨r, h1, h2, h3⟩ := sumOf_eq (text := s) hs
  refine ⟨mkS [(wk .u8 (shrI .u32 r 24)), (wk .u8 (shrI .u32 r 16)), (wk .u8 (shrI .u32 r 8)), (wk .u8 r)], ?_, ?_, r, h2, rfl, ?_⟩
  · rw [mkS_size]
    rfl
  · intro t ht
    rw [h2] at ht
    injection ht with ht
    subst ht
    rfl
  · unfold impl_sumText
    rw [h1]
    rfl
theorem sealed_eq {s : ByteArray} : spec_Sealed s = if s.size > 60000 then some (ByteArray.mk #[], false) else (spec_SumOf s).bind fun x9 => (spec_l02Four x9).bind fun x10 => some (s ++ x10, true) := by
  unfold spec_Sealed
  by_cases q : s.size > 60000
  · rw [ifT (by simp; omega), if_pos q]
  · rw [ifF (by simp; omega), if_neg q]
    obtain ⟨u, h1, h2, t, h3, h4, _⟩ := four_eq (s := s) (by omega)
    simp only [h3, h4, Option.bind_some]
    rw [sapp_in (by omega)]
    rfl
/-- What is left of a sealed text, and how it was sealed. -/
theorem unsealed2 {text : ByteArray} (ht : text.size ≤ 1000000000) : ∃ t ok, impl_Unsealed text = some (t, ok) ∧ spec_Unsealed text = some (t, ok) ∧ t.size ≤ 60000 ∧ (ok = true → spec_Sealed t = some (text, true)) ∧ (∀ s, spec_Sealed s = some (text, true) → s = t ∧ ok = true) := by
  obtain ⟨t, ok, h1, h2, h3⟩ := unsealed_eq ht
  have hs := h2
  unfold spec_Unsealed at hs
  rw [wk64 (x := (text.size : Int) - 4) (by omega) (by omega)] at hs
  have back : ∀ s, spec_Sealed s = some (text, true) → ∃ u : ByteArray, s.size ≤ 60000 ∧ u.size = 4 ∧ text = s ++ u ∧ ∃ x, spec_SumOf s = some x ∧ spec_l02Four x = some u := by
    intro s h
    rw [sealed_eq] at h
    by_cases q : s.size > 60000
    · rw [if_pos q] at h
      injection h with h
      injection h with _ h
      cases h
    · rw [if_neg q] at h
      obtain ⟨u, g1, g2, x, g3, g4, _⟩ := four_eq (s := s) (by omega)
      rw [g3, Option.bind_some, g4, Option.bind_some] at h
      injection h with h
      injection h with h _
      exact ⟨u, by omega, g1, h.symm, x, g3, g4⟩
  refine ⟨t, ok, h1, h2, h3, ?_, ?_⟩
  · intro hok
    subst hok
    by_cases q : (text.size : Int) - 4 < 0
    · rw [ifT (by simpa using q)] at hs
      simp at hs
    rw [ifF (by simpa using q)] at hs
    simp only [Option.bind_some] at hs
    by_cases q2 : (text.size : Int) - 4 > 60000
    · rw [decide_eq_true q2] at hs
      simp at hs
    rw [decide_eq_false q2] at hs
    simp only [Bool.false_eq_true, if_false] at hs
    rw [subL_in (by omega) (by omega), subH_in (by omega) (by omega)] at hs
    simp only [Option.bind_some] at hs
    have hsz : (text.extract 0 ((text.size : Int) - 4).toNat).size = text.size - 4 := by
      rw [ByteArray.size_extract]
      omega
    obtain ⟨u, g1, g2, x, g3, g4, _⟩ := four_eq (s := text.extract 0 ((text.size : Int) - 4).toNat) (by omega)
    rw [g3, Option.bind_some, g4] at hs
    simp only [Option.bind_some] at hs
    cases e : (!((text.extract ((text.size : Int) - 4).toNat text.size).toList == u.toList)) with
    | true =>
      rw [e] at hs
      simp at hs
    | false =>
      rw [e] at hs
      simp only [Bool.false_eq_true, if_false, Option.some.injEq, Prod.mk.injEq, and_true] at hs
      subst hs
      rw [sealed_eq, if_neg (by omega), g3, Option.bind_some, g4, Option.bind_some]
      congr 2
      apply nb_inj
      rw [beq_nb] at e
      have e' : nb (text.extract ((text.size : Int) - 4).toNat text.size) = nb u := by simpa using e
      rw [nb_append, ← e', nb_extract, nb_extract]
      have hl := nb_len text
      have hk : ((text.size : Int) - 4).toNat = text.size - 4 := by omega
      rw [hk, Nat.sub_zero, List.drop_zero, List.take_of_length_le (l := (nb text).drop (text.size - 4)) (by rw [List.length_drop]; omega), List.take_append_drop]
  · intro s h
    obtain ⟨u, g1, g2, rfl, x, g3, g4⟩ := back s h
    have hsu : (s ++ u).size = s.size + 4 := by rw [ByteArray.size_append, g2]
    have ex1 : (s ++ u).extract 0 (((s ++ u).size : Int) - 4).toNat = s := by
      apply nb_inj
      rw [nb_extract, nb_append, List.drop_zero, Nat.sub_zero, show (((s ++ u).size : Int) - 4).toNat = (nb s).length by rw [nb_len]; omega, List.take_left]
    have ex2 : (s ++ u).extract (((s ++ u).size : Int) - 4).toNat (s ++ u).size = u := by
      apply nb_inj
      have hu := nb_len u
      have hs' := nb_len s
      rw [nb_extract, nb_append, show (((s ++ u).size : Int) - 4).toNat = (nb s).length by rw [nb_len]; omega, List.drop_left, List.take_of_length_le (by omega)]
    rw [ifF (by simp; omega)] at hs
    simp only [Option.bind_some] at hs
    rw [decide_eq_false (by omega)] at hs
    simp only [Bool.false_eq_true, if_false] at hs
    rw [subL_in (by omega) (by omega), subH_in (by omega) (by omega)] at hs
    simp only [Option.bind_some, ex1, ex2, g3, g4, beq_self_eq_true, Bool.not_true, Bool.false_eq_true, if_false, Option.some.injEq, Prod.mk.injEq] at hs
    exact ⟨hs.1, hs.2.symm⟩
theorem intents_run {t : ByteArray} (h3 : t.size ≤ 60000) {s1 : T_impl_scanner} {c : T_spec_l08Cur} (hc : Sim t s1 c) : ∃ (n : Nat) (s2 s' : T_impl_scanner) (c2 c' : T_spec_l08Cur) (l l' : List ByteArray), impl_scanner_count s1 13 = some ((n : Int), s2) ∧ spec_l08Var c 13 = some ((n : Int), c2) ∧
      loopM (fun (s' : Int × ByteArray × Int × Bool × (List ByteArray)) => impl_ReadIntent_l1 ((n : Int), s2) s'.1 s'.2.1 s'.2.2.1 s'.2.2.2.1 s'.2.2.2.2) (0, s2.text, s2.at_, s2.bad, []) = some (s'.text, s'.at_, s'.bad, l) ∧
      loopM (fun (s' : Int × ByteArray × Int × Bool × (List ByteArray)) => spec_ReadIntent_l1 ((n : Int), c2) s'.1 s'.2.1 s'.2.2.1 s'.2.2.2.1 s'.2.2.2.2) (0, c2.text, c2.at_, c2.bad, []) = some (c'.text, c'.at_, c'.bad, l') ∧ Sim t s' c' ∧ l'.length ≤ 13 ∧ (∀ y ∈ l', y.size ≤ 60000) ∧
      (s'.bad = false → l = l' ∧ s1.bad = false ∧ Rd t s1 s' (encNm l)) := by
  obtain ⟨n, s2, c2, k1, k2, k3, k4, k5⟩ := count_sim h3 hc (most := 13) (by omega)
  obtain ⟨s', l, c', l', q1, q2, q3, q5, q6, q4⟩ := items_sim (text := t) (I := impl_scanner_short) (G := spec_l08Short) (fun x : ByteArray => encL x.size ++ nb x) (fun x => x.size ≤ 60000) (fun x => x.size ≤ 60000) (n := n)
    (f := fun (s' : Int × ByteArray × Int × Bool × (List ByteArray)) => impl_ReadIntent_l1 ((n : Int), s2) s'.1 s'.2.1 s'.2.2.1 s'.2.2.2.1 s'.2.2.2.2)
    (g := fun (s' : Int × ByteArray × Int × Bool × (List ByteArray)) => spec_ReadIntent_l1 ((n : Int), c2) s'.1 s'.2.1 s'.2.2.1 s'.2.2.2.1 s'.2.2.2.2)
    (fun s c hs => by
      obtain ⟨x, s', c', g1, g2, g3, g4, g5⟩ := short_sim h3 hs
      exact ⟨x, s', x, c', g1, g2, g3, g4, fun hb => ⟨rfl, g4, (g5 hb).1, (g5 hb).2⟩⟩)
    (fun k t a b out hk ho => by
      simp only [impl_ReadIntent_l1]
      rw [ifT (by simpa using hk)]
      congr 1
      funext r
      rw [appn_in (by simp; omega), Option.bind_some, wkS k (by omega)])
    (fun t a b out => by
      simp only [impl_ReadIntent_l1]
      rw [ifF (by simp)])
    (fun k t a out hk ho => by
      simp only [spec_ReadIntent_l1]
      rw [ifT (by simpa using hk)]
      simp only [Option.bind_some, Bool.not_false, if_true]
      congr 1
      funext r
      rw [appn_in (by simp; omega), Option.bind_some, wkS k (by omega)])
    (fun k t a out hk => by
      simp only [spec_ReadIntent_l1]
      by_cases q : k < n
      · rw [ifT (by simpa using q)]
        simp only [Option.bind_some, Bool.not_true, Bool.false_eq_true, if_false]
      · rw [ifF (by simpa using q)]
        simp only [Option.bind_some, Bool.false_eq_true, if_false])
    (fun t a b out => by
      simp only [spec_ReadIntent_l1]
      rw [ifF (by simp)]
      simp only [Option.bind_some, Bool.false_eq_true, if_false])
    k3
  refine ⟨n, s2, s', c2, c', l, l', k1, k2, q1, q2, q3, by omega, q6, fun hb => ?_⟩
  obtain ⟨p1, p2, p3, p4, p5⟩ := q4 hb
  exact ⟨p1, (k5 p2).1, by unfold encNm; rw [p3]; exact (k5 p2).2.trans p5⟩
theorem seg_all (t : ByteArray) : seg t 0 t.size = nb t := by
  unfold seg
  rw [List.drop_zero, Nat.sub_zero, ← nb_len, List.take_length]
/-- ReadIntent. -/
theorem readIntent_eq {text : ByteArray} (ht : text.size ≤ 1000000000) : ∃ l ok, impl_ReadIntent text = some (l, ok) ∧ spec_ReadIntent text = some (l, ok) ∧ l.length ≤ 13 := by
  obtain ⟨t, ok, h1, h2, h3, h4, h5⟩ := unsealed2 ht
  unfold impl_ReadIntent spec_ReadIntent
  rw [h1, h2]
  simp only [Option.bind_some]
  have hs : Sim t ⟨t, 0, !ok⟩ ⟨t, 0, !ok⟩ := ⟨rfl, rfl, rfl, 0, 0, rfl, rfl, by omega, by omega, fun _ => rfl⟩
  obtain ⟨s1, u, c1, g1, g2, ⟨c1', g3⟩, g4, g5⟩ := mark_sim h3 hs (ByteArray.mk #[84, 73, 49]) (by decide) (by decide)
  have g2' : spec_l08Take ⟨t, 0, !ok⟩ 3 = some (u, c1) := g2
  rw [g1, g2']
  simp only [Option.bind_some]
  -- the reference's way, from wherever it stands
  have hseal : ∀ l : List ByteArray, l.length ≤ 13 → (∀ y ∈ l, y.size ≤ 60000) → ∃ r b, spec_IntentText l = some (r, b) ∧ (b = true → okNms l = true ∧ spec_Sealed (accS l l.length) = some (r, b)) ∧ (okNms l = true → spec_Sealed (accS l l.length) = some (r, b)) := by
    intro l hl hy
    rw [intentText_eq hl hy]
    cases q : okNms l with
    | false => exact ⟨_, _, rfl, (fun h => by cases h), (fun h => by cases h)⟩
    | true =>
      simp only [if_true]
      have hsz := accS_size hl hy l.length (Nat.le_refl _)
      rw [sealed_eq]
      by_cases z : (accS l l.length).size > 60000
      · rw [if_pos z]
        exact ⟨_, _, rfl, (fun _ => ⟨trivial, rfl⟩), (fun _ => rfl)⟩
      · rw [if_neg z]
        obtain ⟨v, e1, e2, x, e3, e4, _⟩ := four_eq (s := accS l l.length) (by omega)
        rw [e3, Option.bind_some, e4]
        exact ⟨_, _, rfl, (fun _ => ⟨trivial, rfl⟩), (fun _ => rfl)⟩
  cases q : !(u.toList == (ByteArray.mk #[84, 73, 49]).toList) with
  | true =>
    obtain ⟨n, s2, s', c2, c', l, l', k1, k2, k3, k4, k5, k7, k8, k6⟩ := intents_run h3 g3
    have hb : s'.bad = true := by
      cases r : s'.bad with
      | true => rfl
      | false =>
        have := (k6 r).2.1
        rw [g5 q] at this
        cases this
    obtain ⟨tk, sk, ck, y1, y2, y3, y4, y5, y6, y7⟩ := take_sim h3 hs (n := 3) (by omega)
    have y2' : spec_l08Take ⟨t, 0, !ok⟩ 3 = some (tk, ck) := y2
    rw [g2'] at y2'
    injection y2' with y2'
    injection y2' with e1 e2
    subst e1 e2
    obtain ⟨n2, t2, t', d2, d', m, m', z1, z2, z3, z4, z5, z7, z8, z6⟩ := intents_run h3 y3
    obtain ⟨r, b, w1, w2, w3⟩ := hseal m' z7 z8
    simp only [k1, Option.bind_some, k3, impl_ReadIntent_j1, impl_scanner_done, hb, Bool.not_true, Bool.false_eq_true, if_false, Bool.not_false, if_true, z2, z4, spec_ReadIntent_j1, w1]
    refine ⟨[], false, rfl, ?_, by simp⟩
    cases eb : d'.bad with
    | true => simp only [if_true, Option.bind_some]
    | false =>
      cases b with
      | false => simp only [Bool.false_eq_true, if_false, Bool.not_false, Option.bind_some, if_true]
      | true =>
        simp only [Bool.false_eq_true, if_false, Bool.not_true, Option.bind_some]
        cases ee : (!(r.toList == text.toList)) with
        | true => simp only [if_true]
        | false =>
          exfalso
          rw [beq_nb] at ee
          have er : r = text := nb_inj (by simpa using ee)
          subst er
          obtain ⟨o1, o2⟩ := w2 rfl
          obtain ⟨p1, p2⟩ := h5 _ o2
          subst p2
          have hst : t'.bad = false := by rw [z5.bad, eb]
          obtain ⟨_, x2, _⟩ := z6 hst
          obtain ⟨_, x4, a, b', x5, x6, x7, x8, x9⟩ := y4 x2
          have ha0 : a = 0 := by simp only at x5; omega
          subst ha0
          have hnt := congrArg nb p1
          rw [accS_nb] at hnt
          have hsz : 3 ≤ t.size := by
            have := congrArg List.length hnt
            rw [List.length_append, nb_len, nb_len] at this
            have e3 : (ByteArray.mk #[84, 73, 49]).size = 3 := rfl
            omega
          have := y6 0 rfl (by omega) (by rfl)
          rw [beq_nb] at q
          have hne : ¬ nb u = nb (ByteArray.mk #[84, 73, 49]) := by simpa using q
          apply hne
          rw [this.2.2, nb_extract, ← hnt]
          rfl
  | false =>
    obtain ⟨n, s2, s', c2, c', l, l', k1, k2, k3, k4, k5, k7, k8, k6⟩ := intents_run h3 (g4 q).1
    obtain ⟨r, b, w1, w2, w3⟩ := hseal l' k7 k8
    simp only [k1, k2, Option.bind_some, k3, k4, impl_ReadIntent_j1, spec_ReadIntent_j1, impl_scanner_done, w1]
    have hcb := k5.bad
    cases rb : s'.bad with
    | true =>
      rw [rb] at hcb
      simp only [← hcb, Bool.not_true, Bool.false_eq_true, if_false, Option.bind_some, Bool.not_false, if_true]
      exact ⟨_, _, rfl, rfl, by simp⟩
    | false =>
      rw [rb] at hcb
      obtain ⟨rfl, p2, p3⟩ := k6 rb
      obtain ⟨p4, p5⟩ := (g4 q).2 p2
      have hok : ok = true := by simpa using p4
      subst hok
      obtain ⟨a, b', z1, z2, z3, z4, z5⟩ := (p5.trans p3)
      have ha0 : a = 0 := by simp only at z1; omega
      subst ha0
      obtain ⟨a2, b2, y1, y2, y3, y4, y5⟩ := k5.at_
      have := y5 rb
      subst this
      have hab : a2 = b' := by omega
      subst hab
      rw [← accS_nb] at z5
      have hlen : (accS l l.length).size = a2 := by
        rw [← nb_len, ← z5]
        unfold seg
        rw [List.length_take, List.length_drop, nb_len]
        omega
      simp only [← hcb, Bool.not_false, if_true, Option.bind_some, Bool.false_eq_true, if_false, y1, k5.st, intentOk_eq k7]
      by_cases e : a2 = t.size
      · have et : accS l l.length = t := by
          apply nb_inj
          rw [← z5, e, seg_all]
        have d1 : ((a2 : Int) == (t.size : Int)) = true := by simp [e]
        rw [d1]
        simp only [Bool.not_true, Bool.false_eq_true, if_false, Option.bind_some]
        cases qo : okNms l with
        | false =>
          have hbf : b = false := by
            cases b with
            | false => rfl
            | true => have := (w2 rfl).1; rw [qo] at this; cases this
          subst hbf
          simp only [Bool.not_false, if_true, Option.bind_some]
          exact ⟨_, _, rfl, rfl, by simp⟩
        | true =>
          have := w3 qo
          rw [et, h4 rfl] at this
          injection this with this
          injection this with e1 e2
          subst e1 e2
          simp only [Bool.not_true, Bool.false_eq_true, if_false, Option.bind_some, beq_self_eq_true]
          exact ⟨_, _, rfl, rfl, k7⟩
      · have d1 : ((a2 : Int) == (t.size : Int)) = false := by simp; omega
        rw [d1]
        simp only [Bool.not_false, if_true, Option.bind_some]
        refine ⟨[], false, rfl, ?_, by simp⟩
        cases b with
        | false => simp only [Bool.not_false, Option.bind_some, if_true]
        | true =>
          simp only [Bool.false_eq_true, if_false, Bool.not_true, Option.bind_some]
          cases ee : (!(r.toList == text.toList)) with
          | true => simp only [if_true]
          | false =>
            exfalso
            rw [beq_nb] at ee
            have er : r = text := nb_inj (by simpa using ee)
            subst er
            have := (h5 _ (w2 rfl).2).1
            apply e
            rw [← hlen, this]
theorem eqStringS_refl {a : List ByteArray} (h : a.length ≤ 1000000000) : laws_eqStringS a a = some true := by
  unfold laws_eqStringS
  rw [ifF (by simp)]
  have := eq_loop (body := fun s' => laws_eqStringS_l1 a a s') (r := .inr ()) a.length (fun i hi => by
    unfold laws_eqStringS_l1
    rw [ifT (by simpa using hi), geti_nat, List.getElem?_eq_getElem hi, Option.bind_some, Option.bind_some, ifF (by simp), wk64 (by omega) (by omega)]
    rfl) (by
    unfold laws_eqStringS_l1
    rw [ifF (by simp)])
  rw [this]
  rfl
noncomputable def mkSt (a : List ByteArray) (k : Int) : List ByteArray := mkL (fun _ => 1) (fun _ k => mT k) a k
theorem markStringS_eq {a : List ByteArray} {k : Int} (h1 : 1 ≤ k) (h2 : k + a.length ≤ 1000000) : laws_markStringS a k = some (k + a.length, mkSt a k) := by
  unfold laws_markStringS
  have := mark_loop (body := fun (s' : Int × Int × List ByteArray) => laws_markStringS_l1 s'.1 s'.2.1 s'.2.2) (fun _ => 1) (fun _ k => mT k) a k 1000000 h1 (by rw [sum1]; exact h2) (fun k i x l hi hx hl hk hB => by
    have hlt := (List.getElem?_eq_some_iff.1 hi).1
    show laws_markStringS_l1 k i l = _
    unfold laws_markStringS_l1
    rw [ifT (by simpa using hlt), markText_eq (by omega) (by omega), Option.bind_some, geti_nat, hi, Option.bind_some, wk64 (x := k + 1) (by omega) (by omega), wk64 (by omega) (by omega), Int.toNat_natCast]
    rfl) (fun k l hl => by
    show laws_markStringS_l1 k a.length l = _
    unfold laws_markStringS_l1
    rw [ifF (by simp; omega)])
  rw [this, sum1]
  rfl
theorem heldStringS_eq {a : List ByteArray} {k : Int} (h1 : 1 ≤ k) (h2 : k + a.length ≤ 1000000) : laws_heldStringS (mkSt a k) k = some (k + a.length) := by
  unfold laws_heldStringS
  have := held_loop (body := fun (s' : Int × Int) => laws_heldStringS_l1 (mkSt a k) s'.1 s'.2) (r := .inr) (fun _ => 1) (fun _ k => mT k) a k 1000000 h1 (by rw [sum1]; exact h2) (fun q i x hi hl hx hk hB => by
    show laws_heldStringS_l1 (mkSt a k) q i = _
    unfold laws_heldStringS_l1
    have hi' : (mkSt a k)[i]? = some (mT q) := hi
    rw [ifT (by unfold mkSt; rw [mkL_len]; simpa using hl), geti_nat, hi', Option.bind_some, markText_eq (by omega) (by omega), Option.bind_some, ifF (by simp), wk64 (x := q + 1) (by omega) (by omega), wk64 (by omega) (by omega)]
    rfl) (fun q => by
    show laws_heldStringS_l1 (mkSt a k) q a.length = _
    unfold laws_heldStringS_l1
    rw [ifF (by unfold mkSt; rw [mkL_len]; simp)])
  rw [this, sum1]
  rfl
/-- The law. -/
theorem readIntent_law (text : ByteArray) : laws_FnExactReadIntent text = some true := by
  unfold laws_FnExactReadIntent
  by_cases q : text.size > 1048576
  · rw [ifT (by simp; omega)]
  rw [ifF (by simp; omega)]
  obtain ⟨l, ok, h1, h2, h3⟩ := readIntent_eq (text := text) (by omega)
  rw [h2, h1]
  simp only [Option.bind_some]
  rw [eqStringS_refl (by omega), markStringS_eq (by omega) (by omega)]
  simp only [Option.bind_some]
  rw [heldStringS_eq (by omega) (by omega)]
  simp only [Option.bind_some, Bool.not_true, Bool.false_eq_true, if_false, bne_self_eq_false]
  rw [ifF (by simp; omega)]
  simp
  omega
end Go.TV.F
