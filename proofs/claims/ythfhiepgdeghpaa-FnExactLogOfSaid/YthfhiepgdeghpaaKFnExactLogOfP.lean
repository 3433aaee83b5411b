/- The plain laws. -/
import Derived.Test.YthfhiepgdeghpaaKFnExactLogOfT4
import Derived.Laws.BitsLemmas
import Derived.Test.YthfhiepgdeghpaaKFnExactLogOfD
set_option linter.unusedVariables false
set_option linter.unusedSimpArgs false
set_option maxHeartbeats 8000000
set_option maxRecDepth 100000
/- Plain Lean: loops and small steps. -/
namespace Go.TV.F
open Go.TV

theorem wk64 {x : Int} (h1 : -9223372036854775808 ≤ x) (h2 : x < 9223372036854775808) : wk .i64 x = x := by
  simp only [wk, IntKind.wrap, IntKind.bits, IntKind.signed, Bool.true_and, decide_eq_true_eq, Nat.reduceSub, Int.reducePow]
  split
  · rename_i h; simp at h; omega
  · rename_i h; simp at h; omega
theorem wku64 {x : Int} (h1 : 0 ≤ x) (h2 : x < 18446744073709551616) : wk .u64 x = x := by
  simp only [wk, IntKind.wrap, IntKind.bits, IntKind.signed, Bool.true_and, Bool.false_and, decide_eq_true_eq, Bool.false_eq_true, if_false, Nat.reduceSub, Int.reducePow]
  first | omega | (split <;> omega)
theorem geti_nat {α : Type} (l : List α) (k : Nat) : geti l (k : Int) = l[k]? := by
  unfold geti
  rw [if_neg (by omega), Int.toNat_natCast]
theorem geti_in {α : Type} {l : List α} {i : Int} (h1 : 0 ≤ i) (h2 : i < l.length) : geti l i = some (l[i.toNat]'(by omega)) := by
  unfold geti
  rw [if_neg (by omega), List.getElem?_eq_getElem]
theorem mkl_in {α : Type} {n : Int} {z : α} (h1 : 0 ≤ n) (h2 : n ≤ 1099511627776) : mkl n n z = some (List.replicate n.toNat z) := by
  unfold mkl
  rw [if_pos ⟨h1, Int.le_refl _, h2⟩]
theorem appn_in {α : Type} {l m : List α} (h : l.length + m.length ≤ 549755813888) : appn l m = some (l ++ m) := by
  unfold appn
  rw [if_pos h]
theorem sapp_in {s t : ByteArray} (h : s.size + t.size ≤ 4611686018427387904) : sapp s t = some (s ++ t) := by
  unfold sapp
  rw [if_pos h]
theorem chk_in {p : Prop} [Decidable p] (h : p) : chk p = some () := by
  unfold chk
  rw [if_pos h]
/-- A loop that goes through known states. -/
theorem loopM_at {σ ρ : Type} {body : σ → Option (σ ⊕ ρ)} {r : ρ} (f : Nat → σ) (n : Nat) (hs : ∀ k, k < n → body (f k) = some (.inl (f (k + 1)))) (he : body (f n) = some (.inr r)) : loopM body (f 0) = some r := by
  have key : ∀ m k, k + m = n → loopM body (f k) = some r := by
    intro m
    induction m with
    | zero => intro k hk; rw [Nat.add_zero] at hk; subst hk; rw [loopM_eq, he]; rfl
    | succ m ih => intro k hk; rw [loopM_eq, hs k (by omega)]; exact ih (k + 1) (by omega)
  exact key n 0 (by omega)
/-- A loop that looks at all, and leaves at the first bad one. -/
theorem loopM_all {σ ρ : Type} {body : σ → Option (σ ⊕ ρ)} {good bad : ρ} (f : Nat → σ) (n : Nat) (p : Nat → Bool) (hs : ∀ k, k < n → (∀ j, j < k → p j = true) → p k = true → body (f k) = some (.inl (f (k + 1))))
    (hb : ∀ k, k < n → (∀ j, j < k → p j = true) → p k = false → body (f k) = some (.inr bad)) (he : (∀ j, j < n → p j = true) → body (f n) = some (.inr good)) : loopM body (f 0) = some (if (List.range n).all p = true then good else bad) := by
  have key : ∀ m k, k + m = n → (∀ j, j < k → p j = true) → loopM body (f k) = some (if (List.range n).all p = true then good else bad) := by
    intro m
    induction m with
    | zero =>
      intro k hk hp
      rw [Nat.add_zero] at hk
      subst hk
      rw [loopM_eq, he hp, if_pos (by simpa using hp)]
      rfl
    | succ m ih =>
      intro k hk hp
      rw [loopM_eq]
      cases q : p k with
      | true =>
        rw [hs k (by omega) hp q]
        refine ih (k + 1) (by omega) (fun j hj => ?_)
        rcases Nat.lt_succ_iff_lt_or_eq.1 hj with h | rfl
        · exact hp j h
        · exact q
      | false =>
        rw [hb k (by omega) hp q, if_neg]
        · rfl
        · intro hq
          have := List.all_eq_true.1 hq k (List.mem_range.2 (by omega))
          rw [q] at this
          cases this
  exact key n 0 (by omega) (fun j hj => by omega)
end Go.TV.F
/- Plain Lean: the loops of the laws' own helpers. -/
namespace Go.TV.F
open Go.TV

def sumOf {α : Type} (w : α → Nat) : List α → Nat
  | [] => 0
  | x :: l => w x + sumOf w l
theorem sumOf_mem {α : Type} {w : α → Nat} {l : List α} {x : α} (h : x ∈ l) : w x ≤ sumOf w l := by
  induction l with
  | nil => cases h
  | cons y l ih =>
    rcases List.mem_cons.1 h with rfl | h
    · simp [sumOf]
    · have := ih h
      simp [sumOf]
      omega
/-- A copy. -/
theorem to_loop {α β : Type} {body : Int × List β → Option ((Int × List β) ⊕ List β)} (a : List α) (f : α → β) (z : β) (hs : ∀ (i : Nat) (x : α) (out : List β), a[i]? = some x → out.length = a.length → body ((i : Int), out) = some (.inl (((i + 1 : Nat) : Int), out.set i (f x))))
    (he : ∀ out : List β, out.length = a.length → body ((a.length : Int), out) = some (.inr out)) : loopM body ((0 : Int), List.replicate a.length z) = some (a.map f) := by
  have key : ∀ (l pre : List α), a = pre ++ l → loopM body ((pre.length : Int), pre.map f ++ List.replicate l.length z) = some (a.map f) := by
    intro l
    induction l with
    | nil =>
      intro pre h
      rw [List.append_nil] at h
      subst h
      rw [loopM_eq, he _ (by simp)]
      simp
    | cons x l ih =>
      intro pre h
      rw [loopM_eq, hs pre.length x _ (by rw [h]; simp) (by rw [h]; simp)]
      have := ih (pre ++ [x]) (by rw [h]; simp)
      rw [List.length_append, List.map_append] at this
      have e : (List.map f pre ++ List.replicate (x :: l).length z).set pre.length (f x) = List.map f pre ++ List.map f [x] ++ List.replicate l.length z := by
        rw [List.set_append_right _ _ (by simp)]
        simp [List.replicate_succ]
      rw [e]
      exact this
  exact key a [] rfl
/-- Alike with itself. -/
theorem eq_loop {ρ : Type} {body : Int → Option (Int ⊕ ρ)} {r : ρ} (n : Nat) (hs : ∀ i : Nat, i < n → body (i : Int) = some (.inl ((i + 1 : Nat) : Int))) (he : body (n : Int) = some (.inr r)) : loopM body 0 = some r :=
  loopM_at (fun k => (k : Int)) n hs he
/-- What marks make of a list. -/
def mkL {α : Type} (c : α → Nat) (mk : α → Int → α) : List α → Int → List α
  | [], _ => []
  | x :: l, k => mk x k :: mkL c mk l (k + c x)
theorem mkL_len {α : Type} (c : α → Nat) (mk : α → Int → α) : ∀ (l : List α) (k : Int), (mkL c mk l k).length = l.length
  | [], _ => rfl
  | x :: l, k => by simp [mkL, mkL_len c mk l]
theorem mark_loop {α : Type} {body : Int × Int × List α → Option ((Int × Int × List α) ⊕ (Int × List α))} (c : α → Nat) (mk : α → Int → α) (a : List α) (k0 B : Int) (h1 : 1 ≤ k0) (hB : k0 + sumOf c a ≤ B)
    (hs : ∀ (k : Int) (i : Nat) (x : α) (l : List α), l[i]? = some x → x ∈ a → l.length = a.length → 1 ≤ k → k + c x ≤ B → body (k, (i : Int), l) = some (.inl (k + c x, ((i + 1 : Nat) : Int), l.set i (mk x k))))
    (he : ∀ (k : Int) (l : List α), l.length = a.length → body (k, (a.length : Int), l) = some (.inr (k, l))) : loopM body (k0, (0 : Int), a) = some (k0 + sumOf c a, mkL c mk a k0) := by
  have key : ∀ (l pre : List α) (k : Int), (∀ x ∈ l, x ∈ a) → pre.length + l.length = a.length → 1 ≤ k → k + sumOf c l ≤ B → loopM body (k, (pre.length : Int), pre ++ l) = some (k + sumOf c l, pre ++ mkL c mk l k) := by
    intro l
    induction l with
    | nil =>
      intro pre k _ hl h1 hB
      rw [loopM_eq, show (pre.length : Int) = (a.length : Int) by simp at hl; omega, he _ _ (by simpa using hl)]
      simp [sumOf, mkL]
    | cons x l ih =>
      intro pre k hm hl h1 hB
      simp only [sumOf] at hB
      rw [loopM_eq, hs k pre.length x _ (by simp) (hm x (by simp)) (by simpa using hl) h1 (by omega)]
      have := ih (pre ++ [mk x k]) (k + c x) (fun y hy => hm y (by simp [hy])) (by simp at hl ⊢; omega) (by omega) (by omega)
      have e : (pre ++ x :: l).set pre.length (mk x k) = pre ++ [mk x k] ++ l := by
        rw [List.set_append_right _ _ (by simp)]
        simp
      rw [e]
      rw [List.length_append] at this
      refine this.trans ?_
      simp only [sumOf, mkL, List.append_assoc, List.cons_append, List.nil_append, Option.some.injEq, Prod.mk.injEq, and_true]
      omega
  exact key a [] k0 (fun _ h => h) (by simp) h1 hB
theorem held_loop {α : Type} {ρ : Type} {body : Int × Int → Option ((Int × Int) ⊕ ρ)} {r : Int → ρ} (c : α → Nat) (mk : α → Int → α) (a : List α) (k0 B : Int) (h1 : 1 ≤ k0) (hB : k0 + sumOf c a ≤ B)
    (hs : ∀ (k : Int) (i : Nat) (x : α), (mkL c mk a k0)[i]? = some (mk x k) → i < a.length → x ∈ a → 1 ≤ k → k + c x ≤ B → body (k, (i : Int)) = some (.inl (k + c x, ((i + 1 : Nat) : Int))))
    (he : ∀ (k : Int), body (k, (a.length : Int)) = some (.inr (r k))) : loopM body (k0, (0 : Int)) = some (r (k0 + sumOf c a)) := by
  have key : ∀ (l : List α) (pre : List α) (k : Int), (∀ x ∈ l, x ∈ a) → mkL c mk a k0 = pre ++ mkL c mk l k → pre.length + l.length = a.length → 1 ≤ k → k + sumOf c l ≤ B → loopM body (k, (pre.length : Int)) = some (r (k + sumOf c l)) := by
    intro l
    induction l with
    | nil =>
      intro pre k _ _ hl h1 hB
      rw [loopM_eq, show (pre.length : Int) = (a.length : Int) by simp at hl; omega, he]
      simp [sumOf]
    | cons x l ih =>
      intro pre k hm hp hl h1 hB
      simp only [sumOf] at hB
      rw [loopM_eq, hs k pre.length x (by rw [hp]; simp [mkL]) (by simp at hl; omega) (hm x (by simp)) h1 (by omega)]
      have := ih (pre ++ [mk x k]) (k + c x) (fun y hy => hm y (by simp [hy])) (by rw [hp]; simp [mkL]) (by simp at hl ⊢; omega) (by omega) (by omega)
      rw [List.length_append] at this
      refine this.trans ?_
      simp only [sumOf, Option.some.injEq]
      congr 1
      omega
  exact key a [] k0 (fun _ h => h) rfl (by simp) h1 hB
/-- How much there is. -/
theorem sz_loop {α : Type} {body : Int × Int → Option ((Int × Int) ⊕ (Int ⊕ Int))} (w : α → Nat) (a : List α) (left : Int) (h0 : 0 ≤ left)
    (hs : ∀ (s : Int) (i : Nat) (x : α), a[i]? = some x → 0 ≤ s → s ≤ left → body (s, (i : Int)) = if (w x : Int) ≤ s then some (.inl (s - w x, ((i + 1 : Nat) : Int))) else some (.inr (.inl (-1))))
    (he : ∀ (s : Int), body (s, (a.length : Int)) = some (.inr (.inr s))) : loopM body (left, (0 : Int)) = some (if (sumOf w a : Int) ≤ left then .inr (left - sumOf w a) else .inl (-1)) := by
  have key : ∀ (l : List α) (pre : List α) (s : Int), a = pre ++ l → 0 ≤ s → s ≤ left → loopM body (s, (pre.length : Int)) = some (if (sumOf w l : Int) ≤ s then .inr (s - sumOf w l) else .inl (-1)) := by
    intro l
    induction l with
    | nil =>
      intro pre s h h1 h2
      rw [List.append_nil] at h
      rw [loopM_eq, ← h, he]
      simp [sumOf, h1]
    | cons x l ih =>
      intro pre s h h1 h2
      rw [loopM_eq, hs s pre.length x (by rw [h]; simp) h1 h2]
      have e : ((sumOf w (x :: l) : Nat) : Int) = w x + sumOf w l := by simp [sumOf]
      by_cases q : (w x : Int) ≤ s
      · rw [if_pos q]
        have := ih (pre ++ [x]) (s - w x) (by rw [h]; simp) (by omega) (by omega)
        rw [List.length_append] at this
        refine this.trans ?_
        by_cases q2 : (sumOf w l : Int) ≤ s - w x
        · rw [if_pos q2, if_pos (by omega)]
          congr 2
          omega
        · rw [if_neg q2, if_neg (by omega)]
      · rw [if_neg q]
        rw [if_neg (by omega)]
        rfl
  exact key a [] left rfl h0 (Int.le_refl _)
end Go.TV.F
/- Plain Lean: graphs of versions. -/
namespace Go.TV.F
open Go.TV

/-! ### Right graphs -/
def riseAt (l : List Int) (n : Int) (i : Nat) : Bool := decide (l.getD i 0 ≥ 0) && decide (l.getD i 0 ≤ n - 1) && (i == 0 || decide (l.getD (i - 1) 0 < l.getD i 0))
def rise (l : List Int) (n : Int) : Bool := (List.range l.length).all (riseAt l n)
def gAt (g : List (List Int)) (v : Nat) : Bool := decide ((g.getD v []).length ≤ 4) && rise (g.getD v []) v
def gOk (g : List (List Int)) : Bool := decide (g.length ≤ 40) && (List.range g.length).all (gAt g)
theorem gOk_len {g : List (List Int)} (h : gOk g = true) : g.length ≤ 40 := by
  simp only [gOk, Bool.and_eq_true, decide_eq_true_eq] at h
  exact h.1
theorem gOk_at {g : List (List Int)} (hg : gOk g = true) {v : Nat} (hv : v < g.length) : g[v].length ≤ 4 ∧ rise g[v] v = true := by
  simp only [gOk, Bool.and_eq_true] at hg
  have h1 := List.all_eq_true.1 hg.2 v (List.mem_range.2 hv)
  have : g.getD v [] = g[v] := by simp [hv]
  simp only [gAt, this, Bool.and_eq_true, decide_eq_true_eq] at h1
  exact h1
theorem rise_mem {l : List Int} {n : Int} (h : rise l n = true) {x : Int} (hx : x ∈ l) : 0 ≤ x ∧ x ≤ n - 1 := by
  obtain ⟨i, hi, rfl⟩ := List.getElem_of_mem hx
  have := List.all_eq_true.1 h i (List.mem_range.2 hi)
  have e : l.getD i 0 = l[i] := by simp [hi]
  simp only [riseAt, e, Bool.and_eq_true, decide_eq_true_eq] at this
  exact this.1
theorem gOk_mem {g : List (List Int)} (hg : gOk g = true) {v : Nat} (hv : v < g.length) {x : Int} (hx : x ∈ g[v]) : 0 ≤ x ∧ x < v := by
  have := rise_mem (gOk_at hg hv).2 hx
  omega

/-! ### Sets as bits -/
def orL (c : List Nat) (l : List Int) : Nat := l.foldl (fun (s : Nat) (x : Int) => s ||| c.getD x.toNat 0) 0
theorem orL_snoc (c : List Nat) (l : List Int) (x : Int) : orL c (l ++ [x]) = orL c l ||| c.getD x.toNat 0 := by
  unfold orL
  rw [List.foldl_append]
  rfl
theorem orL_take {c : List Nat} {l : List Int} {i : Nat} (hi : i < l.length) : orL c (l.take (i + 1)) = orL c (l.take i) ||| c.getD l[i].toNat 0 := by
  rw [List.take_succ_eq_append_getElem hi, orL_snoc]
theorem getD_lt {c : List Nat} (hc : ∀ x ∈ c, x < 2 ^ 64) (i : Nat) : c.getD i 0 < 2 ^ 64 := by
  rw [List.getD_eq_getElem?_getD]
  rcases q : c[i]? with _ | x
  · decide
  · exact hc x (List.mem_of_getElem? q)
theorem orL_lt {c : List Nat} (hc : ∀ x ∈ c, x < 2 ^ 64) (l : List Int) : orL c l < 2 ^ 64 := by
  unfold orL
  suffices h : ∀ (l : List Int) (s : Nat), s < 2 ^ 64 → l.foldl (fun (s : Nat) (x : Int) => s ||| c.getD x.toNat 0) s < 2 ^ 64 from h l 0 (by decide)
  intro l
  induction l with
  | nil => intro s hs; exact hs
  | cons x l ih => intro s hs; exact ih _ (Nat.or_lt_two_pow hs (getD_lt hc _))
theorem orL_test (c : List Nat) (l : List Int) (u : Nat) : (orL c l).testBit u = l.any fun x => (c.getD x.toNat 0).testBit u := by
  unfold orL
  suffices h : ∀ (l : List Int) (s : Nat), (l.foldl (fun (s : Nat) (x : Int) => s ||| c.getD x.toNat 0) s).testBit u = (s.testBit u || l.any fun x => (c.getD x.toNat 0).testBit u) by
    rw [h]; simp
  intro l
  induction l with
  | nil => intro s; simp
  | cons x l ih => intro s; rw [List.foldl_cons, ih, Nat.testBit_or, List.any_cons, Bool.or_assoc]
theorem wrapu {n : Int} (h0 : 0 ≤ n) (h1 : n < 2 ^ 64) : IntKind.wrap .u64 n = n := wku64 h0 (by omega)
theorem or_u64 {a b : Nat} (ha : a < 2 ^ 64) (hb : b < 2 ^ 64) : bits .or .u64 a b = ((a ||| b : Nat) : Int) := (bits_nat .u64 64 (by decide) (fun n h0 h1 => wrapu h0 h1) a b ha hb).2
theorem and_u64 {a b : Nat} (ha : a < 2 ^ 64) (hb : b < 2 ^ 64) : bits .and .u64 a b = ((a &&& b : Nat) : Int) := (bits_nat .u64 64 (by decide) (fun n h0 h1 => wrapu h0 h1) a b ha hb).1
theorem shl_one {n : Nat} (hn : n < 64) : shlI .u64 1 (n : Int) = ((2 ^ n : Nat) : Int) := by
  have h : (2 ^ n : Nat) < 2 ^ 64 := Nat.pow_lt_pow_right (by decide) hn
  unfold shlI
  rw [Int.toNat_natCast, show min n IntKind.u64.bits = n by simp [IntKind.bits]; omega, Int.one_mul]
  have e : ((2 : Int) ^ n) = ((2 ^ n : Nat) : Int) := by simp
  rw [e]
  exact wku64 (Int.natCast_nonneg _) (Int.ofNat_lt.2 (show 2 ^ n < 18446744073709551616 from h))
theorem shr_test (s n : Nat) (hs : s < 2 ^ 64) (hn : n < 64) : ((bits .and .u64 (shrI .u64 (s : Int) (n : Int)) 1) == 1) = s.testBit n := by
  have e1 : shrI .u64 (s : Int) (n : Int) = ((s / 2 ^ n : Nat) : Int) := by
    unfold shrI
    rw [Int.toNat_natCast, show min n IntKind.u64.bits = n by simp [IntKind.bits]; omega]
    simp
  have e2 := and_u64 (a := s / 2 ^ n) (b := 1) (Nat.lt_of_le_of_lt (Nat.div_le_self _ _) hs) (by decide)
  rw [e1, show ((1 : Int)) = ((1 : Nat) : Int) from rfl, e2, Nat.testBit_eq_decide_div_mod_eq, Nat.and_one_is_mod]
  rcases Nat.mod_two_eq_zero_or_one (s / 2 ^ n) with q | q <;> rw [q] <;> rfl
def bitsL (s n : Nat) : List Nat := (List.range n).filter fun v => s.testBit v
theorem bitsL_succ (s n : Nat) : bitsL s (n + 1) = if s.testBit n = true then bitsL s n ++ [n] else bitsL s n := by
  simp only [bitsL, List.range_succ, List.filter_append]
  cases q : s.testBit n <;> simp [q]
theorem bitsL_len (s n : Nat) : (bitsL s n).length ≤ n := by
  have := List.length_filter_le (fun v => s.testBit v) (List.range n)
  simpa [bitsL] using this
def ints (l : List Nat) : List Int := l.map fun (n : Nat) => (n : Int)

/-! ### Closures -/
def closN (g : List (List Int)) : Nat → List Nat
  | 0 => List.replicate g.length 0
  | n + 1 => (closN g n).set n (orL (closN g n) (g.getD n []) ||| 2 ^ n)
theorem closN_len (g : List (List Int)) : ∀ n, (closN g n).length = g.length
  | 0 => by simp [closN]
  | n + 1 => by rw [closN, List.length_set, closN_len]
theorem closN_lt {g : List (List Int)} (hg : g.length ≤ 40) : ∀ n, n ≤ g.length → ∀ x ∈ closN g n, x < 2 ^ 64
  | 0, _, x, hx => by
    have := List.eq_of_mem_replicate hx
    subst this
    decide
  | n + 1, hn, x, hx => by
    rcases List.mem_or_eq_of_mem_set hx with q | q
    · exact closN_lt hg n (by omega) x q
    · rw [q]
      exact Nat.or_lt_two_pow (orL_lt (closN_lt hg n (by omega)) _) (Nat.pow_lt_pow_right (by decide) (by omega))
theorem closN_old (g : List (List Int)) : ∀ (n k i : Nat), i < n → (closN g (n + k)).getD i 0 = (closN g n).getD i 0
  | _, 0, _, _ => rfl
  | n, k + 1, i, hi => by
    rw [← Nat.add_assoc, closN, List.getD_eq_getElem?_getD, List.getElem?_set_ne (by omega), ← List.getD_eq_getElem?_getD]
    exact closN_old g n k i hi
/-- The closure of a version, as bits. -/
def clo (g : List (List Int)) (v : Nat) : Nat := (closN g g.length).getD v 0
theorem closN_clo {g : List (List Int)} {n i : Nat} (hn : n ≤ g.length) (hi : i < n) : (closN g n).getD i 0 = clo g i := by
  have := closN_old g n (g.length - n) i hi
  rw [show n + (g.length - n) = g.length by omega] at this
  exact this.symm
theorem clo_lt {g : List (List Int)} (hg : gOk g = true) (v : Nat) : clo g v < 2 ^ 64 := getD_lt (closN_lt (gOk_len hg) _ (Nat.le_refl _)) v
theorem clo_test {g : List (List Int)} (hg : gOk g = true) {v : Nat} (hv : v < g.length) (u : Nat) : (clo g v).testBit u = (decide (u = v) || g[v].any fun p => (clo g p.toNat).testBit u) := by
  have e : g.getD v [] = g[v] := by simp [hv]
  have h1 : clo g v = orL (closN g v) g[v] ||| 2 ^ v := by
    rw [← closN_clo (n := v + 1) (by omega) (by omega), closN, List.getD_eq_getElem?_getD, List.getElem?_set_self (by rw [closN_len]; omega), e]
    rfl
  have h2 : (orL (closN g v) g[v]).testBit u = g[v].any fun p => (clo g p.toNat).testBit u := by
    rw [orL_test, Bool.eq_iff_iff, List.any_eq_true, List.any_eq_true]
    constructor
    · rintro ⟨x, hx, h⟩
      have := gOk_mem hg hv hx
      exact ⟨x, hx, by rw [← closN_clo (n := v) (by omega) (by omega)]; exact h⟩
    · rintro ⟨x, hx, h⟩
      have := gOk_mem hg hv hx
      exact ⟨x, hx, by rw [closN_clo (by omega) (by omega)]; exact h⟩
  rw [h1, Nat.testBit_or, h2, Nat.testBit_two_pow, Bool.or_comm]
  congr 1
  simp only [decide_eq_decide]
  omega
theorem clo_self {g : List (List Int)} (hg : gOk g = true) {v : Nat} (hv : v < g.length) : (clo g v).testBit v = true := by
  rw [clo_test hg hv]
  simp
theorem clo_le {g : List (List Int)} (hg : gOk g = true) : ∀ {v : Nat}, v < g.length → ∀ {u : Nat}, (clo g v).testBit u = true → u ≤ v := by
  intro v
  induction v using Nat.strongRecOn with
  | _ v ih =>
    intro hv u h
    rw [clo_test hg hv] at h
    simp only [Bool.or_eq_true, decide_eq_true_eq, List.any_eq_true] at h
    rcases h with h | ⟨p, hp, h⟩
    · omega
    · have := gOk_mem hg hv hp
      have := ih p.toNat (by omega) (by omega) h
      omega

/-! ### The reference's way -/
def mark (b : List Bool) (l : List Int) : List Bool := l.foldl (fun (b : List Bool) (x : Int) => if 0 ≤ x ∧ x < b.length then b.set x.toNat true else b) b
def step (g : List (List Int)) (b : List Bool) (v : Nat) : List Bool := if b.getD v false = true then mark b (g.getD v []) else b
def down (g : List (List Int)) : Nat → List Bool → List Bool
  | 0, b => b
  | n + 1, b => down g n (step g b n)
def setL (g : List (List Int)) (l : List Int) : List Bool := down g g.length (mark (List.replicate g.length false) l)
theorem mark_snoc (b : List Bool) (l : List Int) (x : Int) : mark b (l ++ [x]) = if 0 ≤ x ∧ x < (mark b l).length then (mark b l).set x.toNat true else mark b l := by
  unfold mark
  rw [List.foldl_append]
  rfl
theorem mark_len (b : List Bool) (l : List Int) : (mark b l).length = b.length := by
  unfold mark
  induction l generalizing b with
  | nil => rfl
  | cons x l ih =>
    rw [List.foldl_cons, ih]
    split <;> simp
theorem mark_take {b : List Bool} {l : List Int} {i : Nat} (hi : i < l.length) : mark b (l.take (i + 1)) = if 0 ≤ l[i] ∧ l[i] < b.length then (mark b (l.take i)).set l[i].toNat true else mark b (l.take i) := by
  rw [List.take_succ_eq_append_getElem hi, mark_snoc, mark_len]
theorem mark_get (b : List Bool) (l : List Int) (u : Nat) : (mark b l).getD u false = (b.getD u false || (decide (u < b.length) && l.any fun x => x == (u : Int))) := by
  unfold mark
  induction l generalizing b with
  | nil => simp
  | cons x l ih =>
    rw [List.foldl_cons, ih, List.any_cons]
    split
    · rename_i hx
      simp only [List.length_set, List.getD_eq_getElem?_getD, List.getElem?_set]
      by_cases e : x.toNat = u
      · have e' : (x == (u : Int)) = true := by simp; omega
        rw [if_pos e, if_pos (by omega), e']
        simp
        right
        omega
      · have e' : (x == (u : Int)) = false := by simp; omega
        rw [if_neg e, e', Bool.false_or]
    · rename_i hx
      by_cases e : x = (u : Int)
      · have : ¬ u < b.length := by omega
        simp [this]
      · have e' : (x == (u : Int)) = false := by simp; exact e
        rw [e', Bool.false_or]
theorem down_len (g : List (List Int)) : ∀ (n : Nat) (b : List Bool), (down g n b).length = b.length
  | 0, _ => rfl
  | n + 1, b => by
    rw [down, down_len, step]
    split
    · exact mark_len _ _
    · rfl
theorem setL_len (g : List (List Int)) (l : List Int) : (setL g l).length = g.length := by rw [setL, down_len, mark_len]; simp
theorem down_get {g : List (List Int)} (hg : gOk g = true) : ∀ (m : Nat) (b : List Bool), m ≤ g.length → b.length = g.length → ∀ u, (down g m b).getD u false = true ↔ ∃ w, b.getD w false = true ∧ ((w < m ∧ (clo g w).testBit u = true) ∨ u = w)
  | 0, b, _, _, u => by
    rw [down]
    exact ⟨fun h => ⟨u, h, .inr rfl⟩, fun ⟨w, h1, h2⟩ => by
      rcases h2 with ⟨h2, _⟩ | h2
      · omega
      · rw [h2]; exact h1⟩
  | m + 1, b, hm, hb, u => by
    have hl : (step g b m).length = g.length := by
      rw [step]
      split
      · rw [mark_len]; exact hb
      · exact hb
    rw [down, down_get hg m _ (by omega) hl u]
    have e : g.getD m [] = g[m] := by simp [show m < g.length by omega]
    by_cases q : b.getD m false = true
    · rw [step, if_pos q, e]
      constructor
      · rintro ⟨w, h1, h2⟩
        rw [mark_get] at h1
        simp only [Bool.or_eq_true, Bool.and_eq_true, decide_eq_true_eq, List.any_eq_true] at h1
        rcases h1 with h1 | ⟨_, x, hx, h1⟩
        · refine ⟨w, h1, ?_⟩
          rcases h2 with ⟨h2, h3⟩ | h2
          · exact .inl ⟨by omega, h3⟩
          · exact .inr h2
        · have hx' := gOk_mem hg (v := m) (by omega) hx
          have h1 : x = (w : Int) := by simpa using h1
          subst h1
          refine ⟨m, q, .inl ⟨by omega, ?_⟩⟩
          rw [clo_test hg (by omega)]
          simp only [Bool.or_eq_true, List.any_eq_true]
          refine .inr ⟨(w : Int), hx, ?_⟩
          rw [Int.toNat_natCast]
          rcases h2 with ⟨_, h2⟩ | h2
          · exact h2
          · rw [h2]
            exact clo_self hg (by omega)
      · rintro ⟨w, h1, h2⟩
        by_cases hw : w = m
        · subst hw
          rcases h2 with ⟨_, h2⟩ | h2
          · rw [clo_test hg (by omega)] at h2
            simp only [Bool.or_eq_true, decide_eq_true_eq, List.any_eq_true] at h2
            rcases h2 with h2 | ⟨p, hp, h2⟩
            · exact ⟨w, by rw [mark_get, h1]; rfl, .inr h2⟩
            · have hp' := gOk_mem hg (v := w) (by omega) hp
              refine ⟨p.toNat, ?_, .inl ⟨by omega, h2⟩⟩
              rw [mark_get]
              simp only [Bool.or_eq_true, Bool.and_eq_true, decide_eq_true_eq, List.any_eq_true]
              exact .inr ⟨by omega, p, hp, by simp; omega⟩
          · exact ⟨w, by rw [mark_get, h1]; rfl, .inr h2⟩
        · refine ⟨w, by rw [mark_get, h1]; rfl, ?_⟩
          rcases h2 with ⟨h2, h3⟩ | h2
          · exact .inl ⟨by omega, h3⟩
          · exact .inr h2
    · rw [step, if_neg q]
      constructor
      · rintro ⟨w, h1, h2⟩
        refine ⟨w, h1, ?_⟩
        rcases h2 with ⟨h2, h3⟩ | h2
        · exact .inl ⟨by omega, h3⟩
        · exact .inr h2
      · rintro ⟨w, h1, h2⟩
        have hw : w ≠ m := fun e => q (e ▸ h1)
        refine ⟨w, h1, ?_⟩
        rcases h2 with ⟨h2, h3⟩ | h2
        · exact .inl ⟨by omega, h3⟩
        · exact .inr h2
theorem setL_get {g : List (List Int)} (hg : gOk g = true) (l : List Int) (u : Nat) : (setL g l).getD u false = true ↔ ∃ x ∈ l, 0 ≤ x ∧ x < g.length ∧ (clo g x.toNat).testBit u = true := by
  rw [setL, down_get hg _ _ (Nat.le_refl _) (by rw [mark_len]; simp)]
  constructor
  · rintro ⟨w, h1, h2⟩
    rw [mark_get] at h1
    simp only [List.length_replicate, Bool.or_eq_true, Bool.and_eq_true, decide_eq_true_eq, List.any_eq_true] at h1
    rcases h1 with h1 | ⟨h0, x, hx, h1⟩
    · rw [List.getD_eq_getElem?_getD, List.getElem?_replicate] at h1
      split at h1 <;> cases h1
    · have h1 : x = (w : Int) := by simpa using h1
      subst h1
      refine ⟨(w : Int), hx, by omega, by omega, ?_⟩
      rw [Int.toNat_natCast]
      rcases h2 with ⟨_, h2⟩ | h2
      · exact h2
      · rw [h2]; exact clo_self hg h0
  · rintro ⟨x, hx, h0, h1, h2⟩
    refine ⟨x.toNat, ?_, .inl ⟨by omega, h2⟩⟩
    rw [mark_get]
    simp only [List.length_replicate, Bool.or_eq_true, Bool.and_eq_true, decide_eq_true_eq, List.any_eq_true]
    exact .inr ⟨by omega, x, hx, by simp; omega⟩
def trues (bs : List Bool) (n : Nat) : List Nat := (List.range n).filter fun v => bs.getD v false
theorem trues_succ (bs : List Bool) (v : Nat) : trues bs (v + 1) = if bs.getD v false = true then trues bs v ++ [v] else trues bs v := by
  simp only [trues, List.range_succ, List.filter_append]
  cases q : bs.getD v false <;> simp [q, -List.getD_eq_getElem?_getD]
/-- Both tell the same list. -/
theorem setL_bits {g : List (List Int)} (hg : gOk g = true) (l : List Int) (hl : ∀ x ∈ l, 0 ≤ x ∧ x < (g.length : Int)) : trues (setL g l) g.length = bitsL (orL (closN g g.length) l) 64 := by
  have hlen := gOk_len hg
  unfold trues bitsL
  have e : (List.range 64) = List.range g.length ++ (List.range (64 - g.length)).map (g.length + ·) := by
    rw [← List.range_add]
    congr 1
    omega
  rw [e, List.filter_append]
  have h2 : ((List.range (64 - g.length)).map (g.length + ·)).filter (fun v => (orL (closN g g.length) l).testBit v) = [] := by
    rw [List.filter_eq_nil_iff]
    intro v hv
    obtain ⟨k, _, rfl⟩ := List.mem_map.1 hv
    intro q
    rw [orL_test, List.any_eq_true] at q
    obtain ⟨x, hx, q⟩ := q
    have := hl x hx
    have := clo_le hg (v := x.toNat) (by omega) q
    omega
  rw [h2, List.append_nil]
  apply List.filter_congr
  intro v _
  rw [Bool.eq_iff_iff, setL_get hg, orL_test, List.any_eq_true]
  constructor
  · rintro ⟨x, hx, _, _, h⟩
    exact ⟨x, hx, h⟩
  · rintro ⟨x, hx, h⟩
    have := hl x hx
    exact ⟨x, hx, this.1, this.2, h⟩
end Go.TV.F
/- Plain Lean: loops by what stays true, and small lemmas. -/
namespace Go.TV.F
open Go.TV
def LB : Nat := 1000000000000000
theorem loopK1 {σ ρ : Type} {f : σ → Option (σ ⊕ ρ)} (I : σ → Prop) (m : σ → Nat) (Q : ρ → Prop) {s : σ} (h0 : I s)
    (h : ∀ s, I s → (∃ s', f s = some (.inl s') ∧ I s' ∧ m s' < m s) ∨ ∃ r, f s = some (.inr r) ∧ Q r) : ∃ r, loopM f s = some r ∧ Q r := by
  have key : ∀ n s, I s → m s = n → ∃ r, loopM f s = some r ∧ Q r := by
    intro n
    induction n using Nat.strongRecOn with
    | _ n ih =>
      intro s hs hm
      rw [loopM_eq f]
      rcases h s hs with ⟨s', h1, h2, h3⟩ | ⟨r, h1, h2⟩
      · rw [h1]
        exact ih (m s') (by omega) s' h2 rfl
      · rw [h1]
        exact ⟨r, rfl, h2⟩
  exact key _ s h0 rfl
theorem tdivK (a b : Nat) : ((a : Int)).tdiv (b : Int) = ((a / b : Nat) : Int) := by
  rw [Int.tdiv_eq_ediv_of_nonneg (by omega)]
  rfl
theorem mkSK (l : List Int) : (mkS l).size = l.length := by
  show (List.toArray (l.map fun x => UInt8.ofNat x.toNat)).size = _
  simp
theorem gset {α : Type} {l : List α} {i : Nat} {x : α} (h : i < l.length) : (l.set i x)[i]? = some x := by simp [h]
theorem inl3 {α β γ ρ : Type} {a a' : α} {b b' : β} {c c' : γ} (h1 : a = a') (h2 : b = b') (h3 : c = c') : (some (.inl (a, b, c)) : Option ((α × β × γ) ⊕ ρ)) = some (.inl (a', b', c')) := by rw [h1, h2, h3]
theorem inl2 {α β ρ : Type} {a a' : α} {b b' : β} (h1 : a = a') (h2 : b = b') : (some (.inl (a, b)) : Option ((α × β) ⊕ ρ)) = some (.inl (a', b')) := by rw [h1, h2]
theorem ltF {a : Int} (h : 0 ≤ a) : decide (a < 0) = false := by simp; omega
theorem sumK1 {α : Type} (a : List α) : sumOf (fun _ => 1) a = a.length := by
  induction a with
  | nil => rfl
  | cons x l ih => simp [sumOf, ih]; omega
theorem sumOf_map {α β : Type} {w : β → Nat} {f : α → β} {v : α → Nat} : ∀ (a : List α), (∀ x ∈ a, w (f x) ≤ v x) → sumOf w (a.map f) ≤ sumOf v a
  | [], _ => Nat.le_refl _
  | x :: l, h => by
    have h1 := h x (by simp)
    have h2 := sumOf_map l (fun y hy => h y (by simp [hy]))
    simp only [sumOf, List.map_cons]
    omega
theorem sumOf_map8 {α β : Type} {w : β → Nat} {f : α → β} {v : α → Nat} : ∀ (a : List α), (∀ x ∈ a, w (f x) ≤ 8 * v x + 8) → sumOf w (a.map f) ≤ 8 * (a.length + sumOf v a)
  | [], _ => by simp [sumOf]
  | x :: l, h => by
    have h1 := h x (by simp)
    have h2 := sumOf_map8 l (fun y hy => h y (by simp [hy]))
    simp only [sumOf, List.map_cons, List.length_cons]
    omega
end Go.TV.F
/- Plain Lean: the functions over graphs, and what they come to. -/
namespace Go.TV.F
open Go.TV

theorem inRange_eq (n a b : Int) : impl_inRange n a b = some (decide (a ≤ n) && decide (n ≤ b)) := by
  unfold impl_inRange
  by_cases h : a ≤ n <;> simp [h]
theorem l01In_eq (n a b : Int) : spec_l01In n a b = some (decide (a ≤ n) && decide (n ≤ b)) := by
  unfold spec_l01In
  by_cases h : a ≤ n <;> simp [h]
theorem isPlace_eq {n m : Int} (h0 : 0 ≤ m) (h1 : m ≤ 1000000000) : impl_isPlace n m = some (decide (0 ≤ n) && decide (n < m)) := by
  unfold impl_isPlace
  rw [wk64 (by omega) (by omega), inRange_eq]
  have : decide (n ≤ m - 1) = decide (n < m) := by simp only [decide_eq_decide]; omega
  rw [this]
  rfl
theorem riseAt_nat {l : List Int} {n : Int} {i : Nat} (hi : i < l.length) : riseAt l n i = (decide (0 ≤ l[i]) && decide (l[i] ≤ n - 1) && (i == 0 || decide (l.getD (i - 1) 0 < l[i]))) := by
  have e : l.getD i 0 = l[i] := by simp [hi]
  simp only [riseAt, e]
theorem ascends_eq {l : List Int} {n : Int} (hl : l.length ≤ 1000000000) (hn : 0 ≤ n) (hn2 : n ≤ 1000000000) : impl_ascends l n = some (rise l n) := by
  unfold impl_ascends
  have hb : ∀ k : Nat, k < l.length → impl_ascends_l1 l n k = some (if riseAt l n k = true then .inl ((k + 1 : Nat) : Int) else .inr (.inl false)) := by
    intro k hk
    unfold impl_ascends_l1
    rw [ifT (by simpa using hk), geti_nat, List.getElem?_eq_getElem hk, Option.bind_some, wk64 (x := n - 1) (by omega) (by omega), inRange_eq, Option.bind_some, riseAt_nat hk]
    cases h1 : (decide (0 ≤ l[k]) && decide (l[k] ≤ n - 1)) with
    | false => simp
    | true =>
      rcases Nat.eq_zero_or_pos k with rfl | hp
      · simp [wk64]
      · obtain ⟨j, rfl⟩ : ∃ j, k = j + 1 := ⟨k - 1, by omega⟩
        rw [wk64 (x := ((j + 1 : Nat) : Int) - 1) (by omega) (by omega), show ((j + 1 : Nat) : Int) - 1 = (j : Int) by omega, geti_nat, List.getElem?_eq_getElem (by omega)]
        rw [wk64 (by omega) (by omega)]
        have e : l.getD (j + 1 - 1) 0 = l[j] := by simp [show j < l.length by omega]
        rw [e]
        by_cases q : l[j] < l[j + 1]
        · simp [q, show ¬ l[j + 1] ≤ l[j] by omega]
        · simp [q, show l[j + 1] ≤ l[j] by omega]
  have := loopM_all (body := fun s' => impl_ascends_l1 l n s') (good := .inr ()) (bad := .inl false) (fun k => (k : Int)) l.length (riseAt l n) (fun k hk _ hp => by show impl_ascends_l1 l n k = _; rw [hb k hk, if_pos hp]) (fun k hk _ hp => by show impl_ascends_l1 l n k = _; rw [hb k hk, hp]; rfl) (fun _ => by
    show impl_ascends_l1 l n l.length = _
    unfold impl_ascends_l1
    rw [ifF (by simp)])
  rw [show (0 : Int) = ((0 : Nat) : Int) from rfl, this, Option.bind_some]
  unfold rise
  cases (List.range l.length).all (riseAt l n) <;> rfl
theorem l05Rise_eq {l : List Int} {n : Int} (hl : l.length ≤ 1000000000) (hn : 0 ≤ n) (hn2 : n ≤ 1000000000) : spec_l05Rise l n = some (rise l n) := by
  unfold spec_l05Rise
  have hb : ∀ k : Nat, k < l.length → spec_l05Rise_l1 l n k = some (if riseAt l n k = true then .inl ((k + 1 : Nat) : Int) else .inr (.inl false)) := by
    intro k hk
    unfold spec_l05Rise_l1
    rw [ifT (by simpa using hk), geti_nat, List.getElem?_eq_getElem hk, Option.bind_some, wk64 (x := n - 1) (by omega) (by omega), l01In_eq, Option.bind_some, riseAt_nat hk]
    cases h1 : (decide (0 ≤ l[k]) && decide (l[k] ≤ n - 1)) with
    | false => simp
    | true =>
      rcases Nat.eq_zero_or_pos k with rfl | hp
      · simp [wk64]
      · obtain ⟨j, rfl⟩ : ∃ j, k = j + 1 := ⟨k - 1, by omega⟩
        rw [wk64 (x := ((j + 1 : Nat) : Int) - 1) (by omega) (by omega), show ((j + 1 : Nat) : Int) - 1 = (j : Int) by omega, geti_nat, List.getElem?_eq_getElem (by omega)]
        rw [wk64 (by omega) (by omega)]
        have e : l.getD (j + 1 - 1) 0 = l[j] := by simp [show j < l.length by omega]
        rw [e]
        by_cases q : l[j] < l[j + 1]
        · simp [q, show ¬ l[j + 1] ≤ l[j] by omega]
        · simp [q, show l[j + 1] ≤ l[j] by omega]
  have := loopM_all (body := fun s' => spec_l05Rise_l1 l n s') (good := .inr ()) (bad := .inl false) (fun k => (k : Int)) l.length (riseAt l n) (fun k hk _ hp => by show spec_l05Rise_l1 l n k = _; rw [hb k hk, if_pos hp]) (fun k hk _ hp => by show spec_l05Rise_l1 l n k = _; rw [hb k hk, hp]; rfl) (fun _ => by
    show spec_l05Rise_l1 l n l.length = _
    unfold spec_l05Rise_l1
    rw [ifF (by simp)])
  rw [show (0 : Int) = ((0 : Nat) : Int) from rfl, this, Option.bind_some]
  unfold rise
  cases (List.range l.length).all (riseAt l n) <;> rfl
theorem gAt_nat {g : List (List Int)} {v : Nat} (hv : v < g.length) : gAt g v = (decide (g[v].length ≤ 4) && rise g[v] v) := by
  have : g.getD v [] = g[v] := by simp [hv]
  unfold gAt
  rw [this]
theorem graphOkI_eq {g : List (List Int)} (hl : g.length ≤ 10000000) : impl_GraphOk g = some (gOk g) := by
  unfold impl_GraphOk
  have hb : ∀ k : Nat, k < g.length → impl_GraphOk_l1 g k = some (if gAt g k = true then .inl ((k + 1 : Nat) : Int) else .inr (.inl false)) := by
    intro k hk
    unfold impl_GraphOk_l1
    rw [ifT (by simpa using hk), geti_nat, List.getElem?_eq_getElem hk, Option.bind_some, gAt_nat hk]
    by_cases h4 : g[k].length ≤ 4
    · rw [ascends_eq (by omega) (by omega) (by omega), wk64 (by omega) (by omega)]
      cases q : rise g[k] k <;> simp [h4, show ¬ (4 : Int) < (g[k].length : Int) by omega]
    · simp [h4, show (4 : Int) < (g[k].length : Int) by omega]
  have := loopM_all (body := fun s' => impl_GraphOk_l1 g s') (good := .inr ()) (bad := .inl false) (fun k => (k : Int)) g.length (gAt g) (fun k hk _ hp => by show impl_GraphOk_l1 g k = _; rw [hb k hk, if_pos hp]) (fun k hk _ hp => by show impl_GraphOk_l1 g k = _; rw [hb k hk, hp]; rfl) (fun _ => by
    show impl_GraphOk_l1 g g.length = _
    unfold impl_GraphOk_l1
    rw [ifF (by simp)])
  rw [show (0 : Int) = ((0 : Nat) : Int) from rfl, this, Option.bind_some]
  unfold gOk
  cases (List.range g.length).all (gAt g)
  · simp
  · simp [impl_GraphOk_j1, show (g.length : Int) ≤ 40 ↔ g.length ≤ 40 by omega]
theorem graphOkS_eq {g : List (List Int)} (hl : g.length ≤ 10000000) : spec_GraphOk g = some (gOk g) := by
  unfold spec_GraphOk
  by_cases h40 : g.length ≤ 40
  · rw [ifF (by simp; omega)]
    have hb : ∀ k : Nat, k < g.length → spec_GraphOk_l1 g k = some (if gAt g k = true then .inl ((k + 1 : Nat) : Int) else .inr (.inl false)) := by
      intro k hk
      unfold spec_GraphOk_l1
      rw [ifT (by simpa using hk), geti_nat, List.getElem?_eq_getElem hk, Option.bind_some, gAt_nat hk]
      by_cases h4 : g[k].length ≤ 4
      · rw [l05Rise_eq (by omega) (by omega) (by omega), wk64 (by omega) (by omega)]
        cases q : rise g[k] k <;> simp [h4, show ¬ (4 : Int) < (g[k].length : Int) by omega]
      · simp [h4, show (4 : Int) < (g[k].length : Int) by omega]
    have := loopM_all (body := fun s' => spec_GraphOk_l1 g s') (good := .inr ()) (bad := .inl false) (fun k => (k : Int)) g.length (gAt g) (fun k hk _ hp => by show spec_GraphOk_l1 g k = _; rw [hb k hk, if_pos hp]) (fun k hk _ hp => by show spec_GraphOk_l1 g k = _; rw [hb k hk, hp]; rfl) (fun _ => by
      show spec_GraphOk_l1 g g.length = _
      unfold spec_GraphOk_l1
      rw [ifF (by simp)])
    rw [show (0 : Int) = ((0 : Nat) : Int) from rfl, this, Option.bind_some]
    unfold gOk
    cases (List.range g.length).all (gAt g) <;> simp [h40, spec_GraphOk_j1]
  · rw [ifT (by simp; omega)]
    simp [gOk, h40]
/-- Sets, as the program holds them. -/
abbrev us (c : List Nat) : List Int := c.map fun (s : Nat) => (s : Int)
theorem unionOf_eq {c : List Nat} {l : List Int} (hc : ∀ x ∈ c, x < 2 ^ 64) (hl : ∀ x ∈ l, 0 ≤ x ∧ x < (c.length : Int)) (hll : l.length ≤ 1000000000) : impl_unionOf (us c) l = some ((orL c l : Nat) : Int) := by
  unfold impl_unionOf
  have := loopM_at (body := fun (s' : Int × Int) => impl_unionOf_l1 (us c) l s'.1 s'.2) (r := ((orL c l : Nat) : Int)) (fun k => (((orL c (l.take k) : Nat) : Int), (k : Int))) l.length (fun k hk => by
    show impl_unionOf_l1 (us c) l ((orL c (l.take k) : Nat) : Int) k = _
    unfold impl_unionOf_l1
    have hk2 := hl _ (List.getElem_mem hk)
    have e : c.getD l[k].toNat 0 = c[l[k].toNat]'(by omega) := by simp [show l[k].toNat < c.length by omega]
    rw [ifT (by simpa using hk), geti_nat, List.getElem?_eq_getElem hk, Option.bind_some, geti_in hk2.1 (by simp; omega), Option.bind_some, wk64 (by omega) (by omega), List.getElem_map,
      or_u64 (orL_lt hc _) (hc _ (List.getElem_mem _)), orL_take hk, e]
    rfl) (by
    show impl_unionOf_l1 (us c) l ((orL c (l.take l.length) : Nat) : Int) l.length = _
    unfold impl_unionOf_l1
    rw [ifF (by simp), List.take_length])
  have e0 : ((0 : Int), (0 : Int)) = (((orL c (l.take 0) : Nat) : Int), ((0 : Nat) : Int)) := rfl
  rw [e0, this]
  rfl
theorem closures_eq {g : List (List Int)} (hg : gOk g = true) : impl_closures g = some (us (closN g g.length)) := by
  have h40 := gOk_len hg
  unfold impl_closures
  rw [mkl_in (by omega) (by omega), Option.bind_some, Int.toNat_natCast]
  have := loopM_at (body := fun (s' : Int × (List Int)) => impl_closures_l1 g s'.1 s'.2) (r := us (closN g g.length)) (fun k => ((k : Int), us (closN g k))) g.length (fun k hk => by
    show impl_closures_l1 g k (us (closN g k)) = _
    unfold impl_closures_l1
    have hlt := closN_lt h40 k (by omega)
    have hm : ∀ x ∈ g[k], 0 ≤ x ∧ x < ((closN g k).length : Int) := fun x hx => by
      have := gOk_mem hg hk hx
      rw [closN_len]
      omega
    have e : g.getD k [] = g[k] := by simp [hk]
    rw [ifT (by simpa using hk), geti_nat, List.getElem?_eq_getElem hk, Option.bind_some, unionOf_eq hlt hm (by have := (gOk_at hg hk).1; omega), Option.bind_some, wku64 (by omega) (by omega), chk_in (by omega), Option.bind_some,
      geti_in (by omega) (by simp [closN_len]; omega), Option.bind_some, shl_one (by omega), or_u64 (orL_lt hlt _) (Nat.pow_lt_pow_right (by decide) (by omega)), wk64 (by omega) (by omega), Int.toNat_natCast, closN, e]
    simp [us, List.map_set]) (by
    show impl_closures_l1 g g.length (us (closN g g.length)) = _
    unfold impl_closures_l1
    rw [ifF (by simp)])
  have e0 : ((0 : Int), List.replicate g.length (0 : Int)) = (((0 : Nat) : Int), us (closN g 0)) := by simp [us, closN]
  rw [e0, this]
  rfl
theorem setHas_eq {s : Nat} {v : Int} (hs : s < 2 ^ 64) : impl_set_has (s : Int) v = some (decide (0 ≤ v) && decide (v ≤ 63) && s.testBit v.toNat) := by
  unfold impl_set_has
  rw [inRange_eq, Option.bind_some]
  cases h : (decide (0 ≤ v) && decide (v ≤ 63)) with
  | false => rfl
  | true =>
    have h' : 0 ≤ v ∧ v ≤ 63 := by simpa using h
    obtain ⟨n, rfl⟩ : ∃ n : Nat, v = n := ⟨v.toNat, by omega⟩
    rw [if_pos rfl, wku64 (by omega) (by omega), chk_in (by omega), Option.bind_some, shr_test s n hs (by omega), Int.toNat_natCast]
    rfl
theorem ints_snoc (l : List Nat) (v : Nat) : ints (l ++ [v]) = ints l ++ [(v : Int)] := by simp [ints]
theorem ints_len (l : List Nat) : (ints l).length = l.length := by simp [ints]
theorem setList_eq {s : Nat} (hs : s < 2 ^ 64) : impl_set_list (s : Int) = some (ints (bitsL s 64)) := by
  unfold impl_set_list
  have := loopM_at (body := fun (s' : Int × (List Int)) => impl_set_list_l1 (s : Int) s'.1 s'.2) (r := ints (bitsL s 64)) (fun k => ((k : Int), ints (bitsL s k))) 64 (fun k hk => by
    show impl_set_list_l1 (s : Int) k (ints (bitsL s k)) = _
    unfold impl_set_list_l1
    have hlen := bitsL_len s k
    have hh : (decide (0 ≤ (k : Int)) && decide ((k : Int) ≤ 63)) = true := by simp; omega
    rw [ifT (by simp; omega), setHas_eq hs, Option.bind_some, hh, Bool.true_and, Int.toNat_natCast, appn_in (by simp [ints_len]; omega), Option.bind_some, wk64 (by omega) (by omega), bitsL_succ]
    cases s.testBit k
    · simp
    · simp [ints_snoc]) (by
    show impl_set_list_l1 (s : Int) ((64 : Nat) : Int) (ints (bitsL s 64)) = _
    unfold impl_set_list_l1
    rw [ifF (by simp)])
  have e0 : ((0 : Int), ([] : List Int)) = (((0 : Nat) : Int), ints (bitsL s 0)) := rfl
  rw [e0, this]
  rfl
/-! ### The reference -/
theorem mark_keep {b : List Bool} {l : List Int} {v : Nat} (h : b.getD v false = true) : (mark b l).getD v false = true := by rw [mark_get, h]; rfl
theorem l05Set_eq {g : List (List Int)} {l : List Int} (hg : gOk g = true) (hl : l.length ≤ 1000000000) : spec_l05Set g l = some (setL g l) := by
  have h40 := gOk_len hg
  unfold spec_l05Set
  rw [mkl_in (by omega) (by omega), Option.bind_some, Int.toNat_natCast]
  have h1 := loopM_at (body := fun (s' : Int × (List Bool)) => spec_l05Set_l3 g l s'.1 s'.2) (r := mark (List.replicate g.length false) l) (fun k => ((k : Int), mark (List.replicate g.length false) (l.take k))) l.length (fun k hk => by
    show spec_l05Set_l3 g l k (mark (List.replicate g.length false) (l.take k)) = _
    unfold spec_l05Set_l3
    rw [ifT (by simpa using hk), geti_nat, List.getElem?_eq_getElem hk, Option.bind_some, wk64 (x := (g.length : Int) - 1) (by omega) (by omega), l01In_eq, Option.bind_some, wk64 (by omega) (by omega), mark_take hk, List.length_replicate]
    by_cases h : 0 ≤ l[k] ∧ l[k] < (g.length : Int)
    · rw [if_pos h, ifT (by simp; omega), geti_in h.1 (by rw [mark_len]; simp; omega)]
      rfl
    · rw [if_neg h, ifF (by simp; omega)]
      rfl) (by
    show spec_l05Set_l3 g l l.length (mark (List.replicate g.length false) (l.take l.length)) = _
    unfold spec_l05Set_l3
    rw [ifF (by simp), List.take_length])
  have e0 : ((0 : Int), List.replicate g.length false) = (((0 : Nat) : Int), mark (List.replicate g.length false) (l.take 0)) := rfl
  rw [e0, h1, Option.bind_some]
  unfold spec_l05Set_j1
  have hlen0 : (mark (List.replicate g.length false) l).length = g.length := by rw [mark_len]; simp
  -- the states of the second loop
  let B : Nat → List Bool := fun k => Nat.rec (mark (List.replicate g.length false) l) (fun k b => step g b (g.length - 1 - k)) k
  have B0 : B 0 = mark (List.replicate g.length false) l := rfl
  have BS : ∀ k, B (k + 1) = step g (B k) (g.length - 1 - k) := fun k => rfl
  have Blen : ∀ k, (B k).length = g.length := by
    intro k
    induction k with
    | zero => exact hlen0
    | succ k ih =>
      rw [BS, step]
      split
      · rw [mark_len]; exact ih
      · exact ih
  have Bd : ∀ m k, k + m = g.length → down g m (B k) = down g 0 (B g.length) := by
    intro m
    induction m with
    | zero => intro k hk; rw [Nat.add_zero] at hk; subst hk; rfl
    | succ m ih =>
      intro k hk
      have := ih (k + 1) (by omega)
      rw [BS, show g.length - 1 - k = m by omega] at this
      exact this
  have h2 := loopM_at (body := fun (s' : Int × (List Bool)) => spec_l05Set_l1 g s'.1 s'.2) (r := B g.length) (fun k => ((g.length : Int) - 1 - k, B k)) g.length (fun k hk => by
    show spec_l05Set_l1 g ((g.length : Int) - 1 - k) (B k) = _
    unfold spec_l05Set_l1
    obtain ⟨v, hv⟩ : ∃ v, g.length - 1 - k = v := ⟨_, rfl⟩
    have ev : (g.length : Int) - 1 - k = (v : Int) := by omega
    have hvl : v < g.length := by omega
    have Bl := Blen k
    rw [ev, ifT (by simp)]
    have egv : g.getD v [] = g[v] := by simp [hvl]
    have h3 := loopM_at (body := fun (s' : Int × (List Bool)) => spec_l05Set_l2 g v s'.1 s'.2) (r := step g (B k) v) (fun j => ((j : Int), mark (B k) (g[v].take j))) (if (B k).getD v false = true then g[v].length else 0) (fun j hj => by
      show spec_l05Set_l2 g v j (mark (B k) (g[v].take j)) = _
      unfold spec_l05Set_l2
      split at hj
      case isFalse => omega
      rename_i hb
      have hmem := gOk_mem hg hvl (List.getElem_mem hj)
      have hml : (mark (B k) (g[v].take j)).length = g.length := by rw [mark_len]; exact Bl
      have hkeep : (mark (B k) (g[v].take j))[v]? = some true := by
        have := mark_keep (l := g[v].take j) hb
        rw [List.getD_eq_getElem?_getD] at this
        rw [List.getElem?_eq_getElem (by omega)] at this ⊢
        simpa using this
      rw [geti_nat, List.getElem?_eq_getElem hvl, Option.bind_some, ifT (by simpa using hj), geti_nat, hkeep]
      simp only [Option.bind_some]
      rw [if_pos trivial, geti_nat, List.getElem?_eq_getElem hj, Option.bind_some, geti_in hmem.1 (by omega), Option.bind_some, wk64 (by have := (gOk_at hg hvl).1; omega) (by have := (gOk_at hg hvl).1; omega), mark_take hj, if_pos (by omega)]
      rfl) (by
      show spec_l05Set_l2 g v ((if (B k).getD v false = true then g[v].length else 0 : Nat) : Int) (mark (B k) (g[v].take (if (B k).getD v false = true then g[v].length else 0))) = _
      unfold spec_l05Set_l2 step
      rw [geti_nat, List.getElem?_eq_getElem hvl, Option.bind_some]
      split
      · rename_i hb
        rw [List.take_length, ifF (by simp), egv]
        simp
      · rename_i hb
        have hf : (B k)[v]? = some false := by
          rw [List.getD_eq_getElem?_getD, List.getElem?_eq_getElem (by omega)] at hb
          rw [List.getElem?_eq_getElem (by omega)]
          simpa using hb
        rw [List.take_zero, show mark (B k) [] = B k from rfl, geti_nat, hf]
        by_cases q : (((0 : Nat) : Int) < (g[v].length : Int)) <;> simp [q])
    have e2 : ((0 : Int), B k) = (((0 : Nat) : Int), mark (B k) (g[v].take 0)) := rfl
    rw [e2, h3, Option.bind_some]
    unfold spec_l05Set_j3
    rw [wk64 (by omega) (by omega), BS, hv, show ((v : Int) - 1) = (g.length : Int) - 1 - ((k + 1 : Nat) : Int) by omega]) (by
    show spec_l05Set_l1 g ((g.length : Int) - 1 - g.length) (B g.length) = _
    unfold spec_l05Set_l1
    rw [ifF (by simp; omega)])
  have e3 : (wk .i64 ((g.length : Int) - 1), mark (List.replicate g.length false) l) = ((g.length : Int) - 1 - ((0 : Nat) : Int), B 0) := by rw [wk64 (by omega) (by omega), B0]; simp
  rw [e3, h2, Option.bind_some]
  unfold spec_l05Set_j2 setL
  have := Bd g.length 0 (by omega)
  rw [B0] at this
  rw [this]
  rfl
end Go.TV.F
/- Plain Lean: bytes; lines that are right. -/
namespace Go.TV.F
open Go.TV
theorem wkS (k : Nat) (h : k < 1000000000) : wk .i64 ((k : Int) + 1) = ((k + 1 : Nat) : Int) := by rw [wk64 (by omega) (by omega)]; omega
theorem toList_loop (bs : ByteArray) : ∀ (m i : Nat) (r : List UInt8), i + m = bs.size → ByteArray.toList.loop bs i r = r.reverse ++ bs.data.toList.drop i
  | 0, i, r, h => by
    rw [ByteArray.toList.loop, if_neg (by omega), List.drop_eq_nil_of_le (by show bs.data.toList.length ≤ i; have : bs.data.toList.length = bs.size := rfl; omega), List.append_nil]
  | m + 1, i, r, h => by
    have hi : i < bs.data.toList.length := by have : bs.data.toList.length = bs.size := rfl; omega
    rw [ByteArray.toList.loop, if_pos (by omega), toList_loop bs m (i + 1) _ (by omega), List.drop_eq_getElem_cons hi]
    have e : bs.get! i = bs.data.toList[i] := by
      show bs.data[i]! = _
      rw [getElem!_pos bs.data i (by simpa using hi)]
      simp
    rw [e]
    simp
theorem toList_eq (bs : ByteArray) : bs.toList = bs.data.toList := by
  unfold ByteArray.toList
  rw [toList_loop bs bs.size 0 [] (by omega)]
  simp
/-- The bytes of a text, as numbers. -/
def nb (s : ByteArray) : List Nat := s.data.toList.map UInt8.toNat
theorem nb_len (s : ByteArray) : (nb s).length = s.size := by simp [nb]
theorem nb_inj {s t : ByteArray} (h : nb s = nb t) : s = t := by
  have : s.data.toList = t.data.toList := List.map_inj_right (fun a b hab => UInt8.toNat_inj.1 hab) |>.1 h
  exact ByteArray.ext (Array.toList_inj.1 this)
theorem beq_nb (s t : ByteArray) : (s.toList == t.toList) = decide (nb s = nb t) := by
  rw [toList_eq, toList_eq]
  by_cases h : nb s = nb t
  · have := nb_inj h
    subst this
    simp
  · rw [decide_eq_false h, beq_eq_false_iff_ne]
    intro he
    exact h (by unfold nb; rw [he])
theorem sidx_nb {s : ByteArray} {k : Nat} (h : k < s.size) : ∃ b : Nat, sidx s (k : Int) = some (b : Int) ∧ (nb s)[k]? = some b ∧ b < 256 := by
  unfold sidx
  rw [if_neg (by omega), Int.toNat_natCast, if_pos h]
  have hk : k < s.data.size := h
  refine ⟨(s.data[k]).toNat, ?_, ?_, UInt8.toNat_lt _⟩
  · unfold bt
    congr 2
    rw [Array.getD_eq_getD_getElem?, Array.getElem?_eq_getElem hk]
    rfl
  · simp [nb, hk, Array.getElem?_eq_getElem hk]
theorem nb_extract (s : ByteArray) (a b : Nat) : nb (s.extract a b) = ((nb s).drop a).take (b - a) := by
  have : (s.extract a b).data = s.data.extract a b := ByteArray.data_extract
  unfold nb
  rw [this, Array.toList_extract]
  simp [List.extract]
theorem all_range {α : Type} (l : List α) (p : α → Bool) : ((List.range l.length).all fun k => (l[k]?.map p).getD true) = l.all p := by
  rw [Bool.eq_iff_iff, List.all_eq_true, List.all_eq_true]
  constructor
  · intro h x hx
    obtain ⟨k, hk, rfl⟩ := List.getElem_of_mem hx
    have := h k (List.mem_range.2 hk)
    rw [List.getElem?_eq_getElem hk] at this
    exact this
  · intro h k hk
    rw [List.getElem?_eq_getElem (List.mem_range.1 hk)]
    exact h _ (List.getElem_mem _)
end Go.TV.F
/- Plain Lean: loops that look at all of a list; small steps. -/
namespace Go.TV.F
open Go.TV
theorem orO (a b : Bool) : (if a = true then some true else some b) = some (a || b) := by cases a <;> rfl
theorem andO (a b : Bool) : (if a = true then some b else some false) = some (a && b) := by cases a <;> rfl
theorem fin_if {γ : Type} {c q : Bool} {A B : γ} (h : c = !q) : (if c = true then some B else some A) = some (if q = true then A else B) := by subst h; cases q <;> rfl
/-- A loop that looks at all, and leaves at the first bad one. -/
theorem all_loopN {β : Type} {body : Int → Option (Int ⊕ (β ⊕ Unit))} {bad : β} (n : Nat) (p : Nat → Bool)
    (hs : ∀ k, k < n → (∀ j, j < k → p j = true) → body (k : Int) = some (if p k = true then .inl ((k + 1 : Nat) : Int) else .inr (.inl bad)))
    (he : body (n : Int) = some (.inr (.inr ()))) : loopM body 0 = some (if (List.range n).all p = true then .inr () else .inl bad) :=
  loopM_all (ρ := β ⊕ Unit) (good := Sum.inr ()) (bad := Sum.inl bad) (fun k => (k : Int)) n p (fun k hk hj hp => by rw [hs k hk hj, if_pos hp]) (fun k hk hj hp => by rw [hs k hk hj, hp]; rfl) (fun _ => he)
theorem all_loopL {α β : Type} {body : Int → Option (Int ⊕ (β ⊕ Unit))} {bad : β} (l : List α) (q : α → Bool)
    (hs : ∀ (k : Nat) (x : α), l[k]? = some x → k < l.length → body (k : Int) = some (if q x = true then .inl ((k + 1 : Nat) : Int) else .inr (.inl bad)))
    (he : body (l.length : Int) = some (.inr (.inr ()))) : loopM body 0 = some (if l.all q = true then .inr () else .inl bad) := by
  rw [← all_range l q]
  exact all_loopN l.length _ (fun k hk _ => by rw [hs k l[k] (List.getElem?_eq_getElem hk) hk, List.getElem?_eq_getElem hk]; rfl) he
theorem all_loopB {β : Type} {body : Int → Option (Int ⊕ (β ⊕ Unit))} {bad : β} (s : ByteArray) (q : Nat → Bool)
    (hs : ∀ (k b : Nat), k < s.size → sidx s (k : Int) = some (b : Int) → (nb s)[k]? = some b → b < 256 → body (k : Int) = some (if q b = true then .inl ((k + 1 : Nat) : Int) else .inr (.inl bad)))
    (he : body (s.size : Int) = some (.inr (.inr ()))) : loopM body 0 = some (if (nb s).all q = true then .inr () else .inl bad) := by
  have hl := nb_len s
  refine all_loopL (nb s) q (fun k x hx hk => ?_) (by rw [hl]; exact he)
  obtain ⟨b, h1, h2, h3⟩ := sidx_nb (s := s) (k := k) (by omega)
  rw [h2] at hx
  injection hx with hx
  subst hx
  exact hs k b (by omega) h1 h2 h3
/-- A loop that appends what each tells. -/
theorem map_loop {α β ρ : Type} {body : Int × List β → Option ((Int × List β) ⊕ ρ)} (l : List α) (f : α → β) (fin : List β → ρ) (hl : l.length ≤ 1000000000)
    (hs : ∀ (k : Nat) (x : α) (out : List β), l[k]? = some x → k < l.length → out.length ≤ 1000000000 → body ((k : Int), out) = some (.inl (((k + 1 : Nat) : Int), out ++ [f x])))
    (he : ∀ out : List β, body ((l.length : Int), out) = some (.inr (fin out))) : loopM body (0, []) = some (fin (l.map f)) := by
  have h := loopM_at (body := body) (r := fin (l.map f)) (fun k => ((k : Int), (l.take k).map f)) l.length (fun k hk => by
    rw [hs k l[k] _ (List.getElem?_eq_getElem hk) hk (by simp; omega), List.take_add_one, List.getElem?_eq_getElem hk, List.map_append]
    rfl) (by rw [List.take_length]; exact he _)
  simpa using h
theorem bl_tri : ∀ a b : List UInt8, (Op.bytesLess a b || a == b) = !Op.bytesLess b a
  | [], [] => rfl
  | [], b :: y => rfl
  | a :: x, [] => rfl
  | a :: x, b :: y => by
    have ih := bl_tri x y
    simp only [Op.bytesLess]
    rcases Nat.lt_trichotomy a.toNat b.toNat with h | h | h
    · have h1 : a < b := h
      have h2 : ¬ b < a := fun q => by have q' : b.toNat < a.toNat := q; omega
      have h3 : ¬ b = a := fun q => by subst q; omega
      simp [h1, h2, h3]
    · have h3 : a = b := UInt8.toNat_inj.1 h
      subst h3
      have h1 : ¬ a < a := fun q => by have q' : a.toNat < a.toNat := q; omega
      simp [h1]
      rw [← ih]
      try (cases Op.bytesLess x y <;> simp)
    · have h1 : b < a := h
      have h2 : ¬ a < b := fun q => by have q' : a.toNat < b.toNat := q; omega
      have h3 : ¬ a = b := fun q => by subst q; omega
      simp [h1, h2, h3]
theorem getD_in {α : Type} {l : List α} {i : Nat} {d : α} (h : i < l.length) : l.getD i d = l[i] := by
  rw [List.getD_eq_getElem?_getD, List.getElem?_eq_getElem h]
  rfl
theorem getD_some {α : Type} {l : List α} {i : Nat} {d x : α} (h : l[i]? = some x) : l.getD i d = x := by
  rw [List.getD_eq_getElem?_getD, h]
  rfl
/-- Where the first one is. -/
def fidx {α : Type} (p : α → Bool) : List α → Int
  | [] => -1
  | x :: l => if p x = true then 0 else if fidx p l = -1 then -1 else fidx p l + 1
theorem fidx_ge {α : Type} (p : α → Bool) : ∀ l : List α, -1 ≤ fidx p l
  | [] => by simp [fidx]
  | x :: l => by
    have := fidx_ge p l
    unfold fidx
    split
    · omega
    · split <;> omega
theorem fidx_none {α : Type} (p : α → Bool) : ∀ l : List α, fidx p l = -1 ↔ ∀ x ∈ l, p x = false
  | [] => by simp [fidx]
  | x :: l => by
    have ih := fidx_none p l
    have hg := fidx_ge p l
    unfold fidx
    by_cases h : p x = true
    · rw [if_pos h]
      constructor
      · intro h; omega
      · intro q
        have := q x (by simp)
        rw [h] at this
        cases this
    · rw [if_neg h]
      have h' : p x = false := by simpa using h
      by_cases q : fidx p l = -1
      · rw [if_pos q]
        have := ih.1 q
        simp [h', this]
        exact this
      · rw [if_neg q]
        constructor
        · intro h; omega
        · intro r
          exact absurd (ih.2 fun y hy => r y (by simp [hy])) q
theorem fidx_some {α : Type} (p : α → Bool) : ∀ (l : List α) (k : Nat), fidx p l = k ↔ ∃ h : k < l.length, p l[k] = true ∧ ∀ (j : Nat) (hj : j < k), p (l[j]'(by omega)) = false
  | [], k => by
    constructor
    · intro h
      have : fidx p ([] : List α) = -1 := rfl
      omega
    · rintro ⟨h, _⟩
      simp at h
  | x :: l, k => by
    have hg := fidx_ge p l
    unfold fidx
    by_cases h : p x = true
    · rw [if_pos h]
      constructor
      · intro hk
        have : k = 0 := by omega
        subst this
        exact ⟨by simp, h, fun j hj => by omega⟩
      · rintro ⟨h1, h2, h3⟩
        rcases Nat.eq_zero_or_pos k with rfl | hk
        · rfl
        · have := h3 0 hk
          simp only [List.getElem_cons_zero] at this
          rw [h] at this
          cases this
    · have h' : p x = false := by simpa using h
      rw [if_neg h]
      cases k with
      | zero =>
        constructor
        · intro hk
          split at hk <;> omega
        · rintro ⟨_, h2, _⟩
          simp only [List.getElem_cons_zero] at h2
          rw [h'] at h2
          cases h2
      | succ k =>
        have ih := fidx_some p l k
        constructor
        · intro hk
          have hk' : fidx p l = k := by
            split at hk <;> omega
          obtain ⟨h1, h2, h3⟩ := ih.1 hk'
          refine ⟨by simp; omega, by simpa using h2, fun j hj => ?_⟩
          cases j with
          | zero => simpa using h'
          | succ j => simpa using h3 j (by omega)
        · rintro ⟨h1, h2, h3⟩
          have hk' : fidx p l = k := ih.2 ⟨by simp at h1; omega, by simpa using h2, fun j hj => by simpa using h3 (j + 1) (by omega)⟩
          rw [if_neg (by omega)]
          omega
/-- The loop that finds it. -/
theorem fidx_loop {α : Type} {body : Int → Option (Int ⊕ (Int ⊕ Unit))} (l : List α) (p : α → Bool)
    (hs : ∀ (k : Nat) (x : α), l[k]? = some x → k < l.length → body (k : Int) = some (if p x = true then .inr (.inl (k : Int)) else .inl ((k + 1 : Nat) : Int)))
    (he : body (l.length : Int) = some (.inr (.inr ()))) : loopM body 0 = some (if fidx p l = -1 then .inr () else .inl (fidx p l)) := by
  have key : ∀ (m k : Nat), k + m = l.length → (∀ (j : Nat) (hj : j < k) (h2 : j < l.length), p l[j] = false) → loopM body (k : Int) = some (if fidx p l = -1 then .inr () else .inl (fidx p l)) := by
    intro m
    induction m with
    | zero =>
      intro k hk hp
      have : k = l.length := by omega
      subst this
      rw [loopM_eq, he, if_pos]
      · rfl
      · rw [fidx_none]
        intro x hx
        obtain ⟨j, hj, rfl⟩ := List.getElem_of_mem hx
        exact hp j hj hj
    | succ m ih =>
      intro k hk hp
      have hlt : k < l.length := by omega
      rw [loopM_eq, hs k l[k] (List.getElem?_eq_getElem hlt) hlt]
      by_cases q : p l[k] = true
      · rw [if_pos q]
        have e : fidx p l = k := (fidx_some p l k).2 ⟨hlt, q, fun j hj => hp j hj (by omega)⟩
        rw [if_neg (by omega), e]
        rfl
      · rw [if_neg q]
        refine ih (k + 1) (by omega) (fun j hj h2 => ?_)
        rcases Nat.lt_succ_iff_lt_or_eq.1 hj with h | rfl
        · exact hp j h h2
        · simpa using q
  exact key l.length 0 (by omega) (fun j hj => by omega)
end Go.TV.F
/- Plain Lean: paths, names, notes, commits: what is right. -/
namespace Go.TV.F
open Go.TV
def pathC (b : Nat) : Bool := (((((decide ((b : Int) ≥ 97) && decide ((b : Int) ≤ 122)) || (decide ((b : Int) ≥ 48) && decide ((b : Int) ≤ 57))) || ((b : Int) == 46)) || ((b : Int) == 45)) || ((b : Int) == 47))
def dbl (s : ByteArray) : Bool := Go.Lib.contains s.data.toList [47, 47]
theorem contains_two (c : UInt8) : ∀ l : List UInt8, Go.Lib.contains l [c, c] = true ↔ ∃ i, l[i]? = some c ∧ l[i + 1]? = some c
  | [] => by
    constructor
    · intro h; simp [Go.Lib.contains, Go.Lib.index] at h
    · rintro ⟨i, h, _⟩; simp at h
  | b :: l => by
    have ih := contains_two c l
    have hge := Go.Lib.index_ge l [c, c]
    unfold Go.Lib.contains at ih ⊢
    unfold Go.Lib.index
    by_cases q : [c, c].isPrefixOf (b :: l) = true
    · rw [if_pos q]
      simp only [Int.le_refl, decide_true, true_iff]
      cases l with
      | nil => simp [List.isPrefixOf] at q
      | cons a l =>
        simp only [List.isPrefixOf, Bool.and_eq_true, beq_iff_eq] at q
        exact ⟨0, by simp [q.1], by simp [q.2]⟩
    · rw [if_neg q]
      have hn : (if (Go.Lib.index l [c, c] == -1) = true then -1 else Go.Lib.index l [c, c] + 1) ≥ 0 ↔ Go.Lib.index l [c, c] ≥ 0 := by
        by_cases r : Go.Lib.index l [c, c] = -1
        · rw [if_pos (by simpa using r), r]
        · rw [if_neg (by simpa using r)]; omega
      rw [decide_eq_true_eq] at ih ⊢
      rw [show (0 ≤ if (Go.Lib.index l [c, c] == -1) = true then -1 else Go.Lib.index l [c, c] + 1) ↔ 0 ≤ Go.Lib.index l [c, c] from hn, ih]
      constructor
      · rintro ⟨i, h1, h2⟩
        exact ⟨i + 1, by simpa using h1, by simpa using h2⟩
      · rintro ⟨i, h1, h2⟩
        cases i with
        | zero =>
          exfalso
          apply q
          cases l with
          | nil => simp at h2
          | cons a l =>
            simp at h1 h2
            simp [List.isPrefixOf, h1, h2]
        | succ i => exact ⟨i, by simpa using h1, by simpa using h2⟩
theorem nb_some {s : ByteArray} {i : Nat} {c : UInt8} : s.data.toList[i]? = some c ↔ (nb s)[i]? = some c.toNat := by
  unfold nb
  rw [List.getElem?_map]
  cases s.data.toList[i]? with
  | none => simp
  | some b =>
    simp only [Option.map_some, Option.some.injEq]
    exact ⟨fun h => by rw [h], fun h => UInt8.toNat_inj.1 h⟩
theorem dbl_iff (s : ByteArray) : dbl s = true ↔ ∃ i, (nb s)[i]? = some 47 ∧ (nb s)[i + 1]? = some 47 := by
  unfold dbl
  rw [contains_two]
  constructor
  · rintro ⟨i, h1, h2⟩
    exact ⟨i, nb_some.1 h1, nb_some.1 h2⟩
  · rintro ⟨i, h1, h2⟩
    exact ⟨i, nb_some.2 h1, nb_some.2 h2⟩
def b0 (s : ByteArray) (i : Nat) : Nat := (nb s).getD i 0
def pathB (s : ByteArray) : Bool := (decide (1 ≤ s.size) && decide (s.size ≤ 24)) && (nb s).all pathC && (!(b0 s 0 == 47) && !(b0 s (s.size - 1) == 47)) && !dbl s
theorem pathI_eq {s : ByteArray} (hs : s.size ≤ 1000000000) : impl_PathOk s = some (pathB s) := by
  unfold impl_PathOk pathB
  rw [all_loopB s pathC (fun k b hk h1 h2 h3 => by
    unfold impl_PathOk_l1
    rw [ifT (by simpa using hk), h1]
    simp only [Option.bind_some, orO, andO, wkS k (by omega)]
    exact fin_if rfl) (by
    unfold impl_PathOk_l1
    rw [ifF (by simp)]), Option.bind_some]
  cases q : (nb s).all pathC with
  | false => simp
  | true =>
    simp only [if_true, impl_PathOk_j1, inRange_eq, Option.bind_some]
    have hl := nb_len s
    by_cases h1 : 1 ≤ s.size ∧ s.size ≤ 24
    · have e1 : (decide ((1 : Int) ≤ (s.size : Int)) && decide ((s.size : Int) ≤ 24)) = true := by simp; omega
      have e2 : (decide (1 ≤ s.size) && decide (s.size ≤ 24)) = true := by simp; omega
      rw [e1, e2, ifF (by simp)]
      have z1 : (ByteArray.mk #[47]).size = 1 := rfl
      have n1 : nb (ByteArray.mk #[47]) = [47] := rfl
      have hp : strings_HasPrefix s (ByteArray.mk #[47]) = some (b0 s 0 == 47) := by
        unfold strings_HasPrefix internal_stringslite_HasPrefix
        rw [z1, ifT (by simp; omega)]
        have : subH s ((1 : Nat) : Int) = some (s.extract 0 1) := by
          unfold subH
          rw [if_neg (by omega), if_pos (by omega)]
          rfl
        rw [this]
        simp only [Option.bind_some]
        rw [beq_nb, nb_extract, n1]
        congr 1
        unfold b0
        cases hn : nb s with
        | nil => rw [hn] at hl; simp at hl; omega
        | cons a t =>
          simp
          rw [Bool.eq_iff_iff]; simp
      have hsf : strings_HasSuffix s (ByteArray.mk #[47]) = some (b0 s (s.size - 1) == 47) := by
        unfold strings_HasSuffix internal_stringslite_HasSuffix
        rw [z1, ifT (by simp; omega), wk64 (by omega) (by omega)]
        have : subL s ((s.size : Int) - ((1 : Nat) : Int)) = some (s.extract (s.size - 1) s.size) := by
          unfold subL
          rw [if_neg (by omega), if_pos (by omega)]
          congr 2
          omega
        rw [this]
        simp only [Option.bind_some]
        rw [beq_nb, nb_extract, n1]
        congr 1
        unfold b0
        rw [show s.size - (s.size - 1) = 1 by omega, List.drop_eq_getElem_cons (by omega), getD_in (by omega)]
        rw [Bool.eq_iff_iff]
        simp only [List.take_succ_cons, List.take_zero, decide_eq_true_eq, beq_iff_eq, List.cons.injEq, and_true]
      have hc : strings_Contains s (ByteArray.mk #[47, 47]) = some (dbl s) := by
        unfold strings_Contains dbl
        rw [if_pos (by omega)]
      rw [hp, hsf, hc]
      simp only [Option.bind_some, andO]
      cases b0 s 0 == 47 <;> cases b0 s (s.size - 1) == 47 <;> cases dbl s <;> rfl
    · have e1 : (decide ((1 : Int) ≤ (s.size : Int)) && decide ((s.size : Int) ≤ 24)) = false := by
        cases h : (decide ((1 : Int) ≤ (s.size : Int)) && decide ((s.size : Int) ≤ 24)) with
        | false => rfl
        | true => simp at h; omega
      have e2 : (decide (1 ≤ s.size) && decide (s.size ≤ 24)) = false := by
        cases h : (decide (1 ≤ s.size) && decide (s.size ≤ 24)) with
        | false => rfl
        | true => simp at h; omega
      rw [e1, e2]
      rfl
theorem pathS_eq {s : ByteArray} (hs : s.size ≤ 1000000000) : spec_PathOk s = some (pathB s) := by
  unfold spec_PathOk pathB
  simp only [l01In_eq, Option.bind_some]
  have hl := nb_len s
  by_cases h1 : 1 ≤ s.size ∧ s.size ≤ 24
  · have e1 : (decide ((1 : Int) ≤ (s.size : Int)) && decide ((s.size : Int) ≤ 24)) = true := by simp; omega
    have e2 : (decide (1 ≤ s.size) && decide (s.size ≤ 24)) = true := by simp; omega
    rw [e1, e2, ifF (b := !true) (by simp)]
    obtain ⟨a, g1, g2, g3⟩ := sidx_nb (s := s) (k := 0) (by omega)
    obtain ⟨z, g4, g5, g6⟩ := sidx_nb (s := s) (k := s.size - 1) (by omega)
    have ea : b0 s 0 = a := getD_some g2
    have ez : b0 s (s.size - 1) = z := getD_some g5
    have e0 : sidx s 0 = some (a : Int) := g1
    rw [e0, wk64 (by omega) (by omega), show (s.size : Int) - 1 = ((s.size - 1 : Nat) : Int) by omega, g4, ea, ez]
    simp only [Option.bind_some, orO]
    have k47 : ∀ x : Nat, ((x : Int) == 47) = (x == 47) := fun x => by
      rw [Bool.eq_iff_iff]; simp; omega
    rw [k47, k47]
    cases qa : a == 47 with
    | true => simp
    | false =>
      cases qz : z == 47 with
      | true => simp
      | false =>
        rw [ifF (by rfl)]
        rw [all_loopN s.size (fun i => pathC (b0 s i) && !(decide (i > 0) && (b0 s i == 47) && (b0 s (i - 1) == 47))) (fun k hk _ => by
          unfold spec_PathOk_l1
          obtain ⟨b, j1, j2, j3⟩ := sidx_nb (s := s) hk
          rw [ifT (by simpa using hk), j1]
          have eb : b0 s k = b := getD_some j2
          simp only [eb]
          by_cases hk0 : k = 0
          · subst hk0
            simp only [Option.bind_some, show (decide (((0 : Nat) : Int) > 0)) = false from rfl, show (decide ((0 : Nat) > 0)) = false from rfl, Bool.false_and, Bool.false_eq_true, if_false, orO, andO, wkS 0 (by omega)]
            exact fin_if (by simp [pathC])
          · obtain ⟨c, i1, i2, i3⟩ := sidx_nb (s := s) (k := k - 1) (by omega)
            have ec : b0 s (k - 1) = c := getD_some i2
            rw [wk64 (x := (k : Int) - 1) (by omega) (by omega), show (k : Int) - 1 = ((k - 1 : Nat) : Int) by omega, i1]
            simp only [Option.bind_some, orO, andO, wkS k (by omega), ec, k47]
            refine fin_if ?_
            have d1 : decide ((k : Int) > 0) = true := by simp; omega
            have d2 : decide (k > 0) = true := by simp; omega
            rw [d1, d2]
            unfold pathC
            simp only [k47]
            cases b == 47 <;> cases c == 47 <;> simp) (by
          unfold spec_PathOk_l1
          rw [ifF (by simp)])]
        have hall : (List.range s.size).all (fun i => pathC (b0 s i) && !(decide (i > 0) && (b0 s i == 47) && (b0 s (i - 1) == 47))) = ((nb s).all pathC && !dbl s) := by
          rw [Bool.eq_iff_iff, List.all_eq_true, Bool.and_eq_true, List.all_eq_true, Bool.not_eq_true', Bool.eq_false_iff, Ne, dbl_iff]
          constructor
          · intro h
            refine ⟨fun x hx => ?_, ?_⟩
            · obtain ⟨i, hi, rfl⟩ := List.getElem_of_mem hx
              have := h i (List.mem_range.2 (by omega))
              unfold b0 at this
              rw [getD_in hi] at this
              simp only [Bool.and_eq_true] at this
              exact this.1
            · rintro ⟨i, h2, h3⟩
              have hi := (List.getElem?_eq_some_iff.1 h3).1
              have := h (i + 1) (List.mem_range.2 (by omega))
              unfold b0 at this
              rw [getD_some h3, Nat.add_sub_cancel, getD_some h2] at this
              simp at this
          · rintro ⟨h2, h3⟩ i hi
            have hi' := List.mem_range.1 hi
            have hin : i < (nb s).length := by omega
            have p1 : pathC (b0 s i) = true := by
              unfold b0
              rw [getD_in hin]
              exact h2 _ (List.getElem_mem hin)
            rw [p1, Bool.true_and]
            cases hq : (decide (i > 0) && (b0 s i == 47) && (b0 s (i - 1) == 47)) with
            | false => rfl
            | true =>
              exfalso
              simp only [Bool.and_eq_true, decide_eq_true_eq, beq_iff_eq] at hq
              obtain ⟨⟨hq1, hq2⟩, hq3⟩ := hq
              apply h3
              refine ⟨i - 1, ?_, ?_⟩
              · rw [List.getElem?_eq_getElem (by omega), ← hq3]
                unfold b0
                rw [getD_in (by omega)]
              · rw [show i - 1 + 1 = i by omega, List.getElem?_eq_getElem hin, ← hq2]
                unfold b0
                rw [getD_in hin]
        rw [hall]
        cases (nb s).all pathC <;> cases dbl s <;> rfl
  · have e1 : (decide ((1 : Int) ≤ (s.size : Int)) && decide ((s.size : Int) ≤ 24)) = false := by
      cases h : (decide ((1 : Int) ≤ (s.size : Int)) && decide ((s.size : Int) ≤ 24)) with
      | false => rfl
      | true => simp at h; omega
    have e2 : (decide (1 ≤ s.size) && decide (s.size ≤ 24)) = false := by
      cases h : (decide (1 ≤ s.size) && decide (s.size ≤ 24)) with
      | false => rfl
      | true => simp at h; omega
    rw [e1, e2]
    rfl
end Go.TV.F
/- Plain Lean: names, notes, commits: what is right. -/
namespace Go.TV.F
open Go.TV
/-- Where the first name with an id is. -/
def idN (l : List T_impl_Name) (id : Int) : Int := fidx (fun n => n.Id == id) l
theorem idAt_eq {l : List T_impl_Name} (hl : l.length ≤ 1000000000) (id : Int) : impl_idAt l id = some (idN l id) := by
  unfold impl_idAt slices_IndexFunc_impl_Name_impl_Name idN
  rw [fidx_loop l (fun n => n.Id == id) (fun k x hx hk => by
    unfold slices_IndexFunc_impl_Name_impl_Name_l1 impl_idAt_c1
    rw [ifT (by simpa using hk), geti_nat, hx]
    simp only [Option.bind_some, wkS k (by omega)]
    split <;> rfl) (by
    unfold slices_IndexFunc_impl_Name_impl_Name_l1
    rw [ifF (by simp)])]
  split
  · rename_i h
    rw [h]
    rfl
  · rfl
def bN : T_impl_Name := ⟨ByteArray.mk #[], 0, 0⟩
/-- A name in its place is right. -/
def nameAt (l : List T_impl_Name) (i : Nat) : Bool :=
  pathB (l.getD i bN).Path && (i == 0 || Op.bytesLess (l.getD (i - 1) bN).Path.toList (l.getD i bN).Path.toList) && (decide (0 ≤ (l.getD i bN).Id) && decide ((l.getD i bN).Id ≤ 11)) && (decide (0 ≤ (l.getD i bN).Version) && decide ((l.getD i bN).Version ≤ 39)) && (List.range i).all fun k => !((l.getD k bN).Id == (l.getD i bN).Id)
def namesB (l : List T_impl_Name) : Bool := decide (l.length ≤ 12) && (List.range l.length).all (nameAt l)
def smN (l : List T_impl_Name) : Prop := ∀ n ∈ l, n.Path.size ≤ 1000000000
theorem idN_first {l : List T_impl_Name} {k : Nat} (hk : k < l.length) : (idN l l[k].Id != (k : Int)) = !(List.range k).all fun j => !((l.getD j bN).Id == l[k].Id) := by
  have h := fidx_some (fun n : T_impl_Name => n.Id == l[k].Id) l k
  unfold idN
  rw [bne]
  congr 1
  rw [Bool.eq_iff_iff, beq_iff_eq, h, List.all_eq_true]
  constructor
  · rintro ⟨_, _, h3⟩ j hj
    have hj' := List.mem_range.1 hj
    have := h3 j hj'
    rw [getD_in (by omega)]
    simp only [this, Bool.not_false]
  · intro h3
    refine ⟨hk, by simp, fun j hj => ?_⟩
    have := h3 j (List.mem_range.2 hj)
    rw [getD_in (by omega)] at this
    simpa using this
theorem namesI_eq {l : List T_impl_Name} (hs : smN l) : impl_NamesOk l = some (namesB l) := by
  unfold impl_NamesOk namesB
  by_cases q : l.length ≤ 12
  · rw [ifF (by simp; omega), decide_eq_true q, Bool.true_and, all_loopN l.length (nameAt l) (fun k hk _ => by
      unfold impl_NamesOk_l1
      rw [ifT (by simpa using hk), geti_nat, List.getElem?_eq_getElem hk]
      simp only [Option.bind_some]
      rw [pathI_eq (hs _ (List.getElem_mem hk)), inRange_eq, inRange_eq, idAt_eq (by omega)]
      simp only [Option.bind_some, orO, wkS k (by omega)]
      have hprev : (if decide ((k : Int) > 0) = true then (geti l (wk .i64 ((k : Int) - 1))).bind fun x_1 => some (Op.bytesLess l[k].Path.toList x_1.Path.toList || l[k].Path.toList == x_1.Path.toList) else some false) = some (!(k == 0 || Op.bytesLess (l.getD (k - 1) bN).Path.toList l[k].Path.toList)) := by
        by_cases hk0 : k = 0
        · subst hk0
          rfl
        · rw [ifT (by simp; omega), wk64 (by omega) (by omega), show (k : Int) - 1 = ((k - 1 : Nat) : Int) by omega, geti_nat, List.getElem?_eq_getElem (by omega), Option.bind_some, bl_tri, getD_in (show k - 1 < l.length by omega)]
          have : (k == 0) = false := by simpa using hk0
          rw [this, Bool.false_or]
      rw [hprev, idN_first hk]
      simp only [Option.bind_some, orO]
      unfold nameAt
      rw [getD_in hk]
      generalize pathB l[k].Path = a
      generalize (decide (0 ≤ l[k].Id) && decide (l[k].Id ≤ 11)) = b
      generalize (decide (0 ≤ l[k].Version) && decide (l[k].Version ≤ 39)) = c
      generalize (k == 0 || Op.bytesLess (l.getD (k - 1) bN).Path.toList l[k].Path.toList) = d
      generalize ((List.range k).all fun j => !((l.getD j bN).Id == l[k].Id)) = e
      cases a <;> cases b <;> cases c <;> cases d <;> cases e <;> rfl) (by
      unfold impl_NamesOk_l1
      rw [ifF (by simp)])]
    cases (List.range l.length).all (nameAt l) <;> rfl
  · rw [ifT (by simp; omega), decide_eq_false q]
    rfl
theorem namesS_eq {l : List T_impl_Name} (hs : smN l) : spec_NamesOk l = some (namesB l) := by
  unfold spec_NamesOk namesB
  by_cases q : l.length ≤ 12
  · rw [ifF (by simp; omega), decide_eq_true q, Bool.true_and, all_loopN l.length (nameAt l) (fun k hk _ => by
      unfold spec_NamesOk_l1
      rw [ifT (by simpa using hk), geti_nat, List.getElem?_eq_getElem hk]
      simp only [Option.bind_some]
      rw [pathS_eq (hs _ (List.getElem_mem hk)), l01In_eq, l01In_eq]
      have hprev : (if decide ((k : Int) > 0) = true then (geti l (wk .i64 ((k : Int) - 1))).bind fun x_1 => some (!Op.bytesLess x_1.Path.toList l[k].Path.toList) else some false) = some (!(k == 0 || Op.bytesLess (l.getD (k - 1) bN).Path.toList l[k].Path.toList)) := by
        by_cases hk0 : k = 0
        · subst hk0
          rfl
        · rw [ifT (by simp; omega), wk64 (by omega) (by omega), show (k : Int) - 1 = ((k - 1 : Nat) : Int) by omega, geti_nat, List.getElem?_eq_getElem (by omega), Option.bind_some, getD_in (show k - 1 < l.length by omega)]
          have : (k == 0) = false := by simpa using hk0
          rw [this, Bool.false_or]
      rw [hprev]
      simp only [Option.bind_some, orO]
      have hin : loopM (fun (s' : Int) => spec_NamesOk_l2 l (k : Int) l[k] s') 0 = some (if ((List.range k).all fun j => !((l.getD j bN).Id == l[k].Id)) = true then .inr () else .inl (.inr (.inl false))) := by
        refine all_loopN k (fun j => !((l.getD j bN).Id == l[k].Id)) (fun j hj _ => ?_) ?_
        · show spec_NamesOk_l2 l k l[k] j = _
          unfold spec_NamesOk_l2
          rw [ifT (by simpa using hj), geti_nat, List.getElem?_eq_getElem (by omega), Option.bind_some, wkS j (by omega), getD_in (show j < l.length by omega)]
          exact fin_if (by simp)
        · show spec_NamesOk_l2 l k l[k] k = _
          unfold spec_NamesOk_l2
          rw [ifF (by simp)]
      rw [hin]
      unfold nameAt
      rw [getD_in hk]
      simp only [spec_NamesOk_j2, wkS k (show k < 1000000000 by omega)]
      generalize pathB l[k].Path = a
      generalize (decide (0 ≤ l[k].Id) && decide (l[k].Id ≤ 11)) = b
      generalize (decide (0 ≤ l[k].Version) && decide (l[k].Version ≤ 39)) = c
      generalize (k == 0 || Op.bytesLess (l.getD (k - 1) bN).Path.toList l[k].Path.toList) = d
      generalize ((List.range k).all fun j => !((l.getD j bN).Id == l[k].Id)) = e
      cases a <;> cases b <;> cases c <;> cases d <;> cases e <;> rfl) (by
      unfold spec_NamesOk_l1
      rw [ifF (by simp)])]
    cases (List.range l.length).all (nameAt l) <;> rfl
  · rw [ifT (by simp; omega), decide_eq_false q]
    rfl
/-! ### Notes -/
def noteC (b : Nat) : Bool := !(decide ((b : Int) < 32) || decide ((b : Int) > 126))
def noteB (s : ByteArray) : Bool := decide (s.size ≤ 40) && (nb s).all noteC
theorem noteI_eq {s : ByteArray} (hs : s.size ≤ 1000000000) : impl_NoteOk s = some (noteB s) := by
  unfold impl_NoteOk noteB
  rw [all_loopB s noteC (fun k b hk h1 h2 h3 => by
    unfold impl_NoteOk_l1
    rw [ifT (by simpa using hk), h1]
    simp only [Option.bind_some, orO, wkS k (by omega)]
    exact fin_if (by simp [noteC])) (by
    unfold impl_NoteOk_l1
    rw [ifF (by simp)]), Option.bind_some]
  have e : decide ((s.size : Int) ≤ 40) = decide (s.size ≤ 40) := by rw [decide_eq_decide]; omega
  cases (nb s).all noteC with
  | true => simp only [if_true, impl_NoteOk_j1, e, Bool.and_true]
  | false => simp
theorem noteS_eq {s : ByteArray} (hs : s.size ≤ 1000000000) : spec_NoteOk s = some (noteB s) := by
  unfold spec_NoteOk noteB
  have e : decide ((s.size : Int) ≤ 40) = decide (s.size ≤ 40) := by rw [decide_eq_decide]; omega
  by_cases q : s.size ≤ 40
  · rw [all_loopB s noteC (fun k b hk h1 h2 h3 => by
      unfold spec_NoteOk_l1
      rw [ifT (by simpa using hk), h1]
      simp only [Option.bind_some, orO, wkS k (by omega), e, decide_eq_true q, if_true]
      exact fin_if (by simp [noteC])) (by
      unfold spec_NoteOk_l1
      rw [ifF (by simp)]
      rfl), Option.bind_some]
    cases (nb s).all noteC with
    | true => simp only [if_true, spec_NoteOk_j1, e, Bool.and_true]
    | false => simp
  · rw [loopM_eq]
    unfold spec_NoteOk_l1
    rw [decide_eq_false q, e, decide_eq_false q]
    have : ∀ b : Bool, (if b = true then some false else some false) = some false := fun b => by cases b <;> rfl
    rw [this]
    simp only [Option.bind_some, Bool.false_eq_true, if_false, spec_NoteOk_j1, e, decide_eq_false q, Bool.false_and]
/-! ### Commits -/
def graphC (l : List T_impl_Commit) : List (List Int) := l.map fun c => c.Parents
theorem graphI_eq {l : List T_impl_Commit} (hl : l.length ≤ 1000000000) : impl_graphOf l = some (graphC l) := by
  unfold impl_graphOf graphC
  rw [map_loop (body := fun (s' : Int × (List (List Int))) => impl_graphOf_l1 l s'.1 s'.2) l (fun c => c.Parents) id hl (fun k x out hx hk ho => by
    simp only [impl_graphOf_l1]
    rw [ifT (by simpa using hk), geti_nat, hx, Option.bind_some, appn_in (by simp; omega), Option.bind_some, wkS k (by omega)]) (fun out => by
    simp only [impl_graphOf_l1]
    rw [ifF (by simp)]
    rfl)]
  rfl
theorem graphS_eq {l : List T_impl_Commit} (hl : l.length ≤ 1000000000) : spec_l14Graph l = some (graphC l) := by
  unfold spec_l14Graph graphC
  rw [map_loop (body := fun (s' : Int × (List (List Int))) => spec_l14Graph_l1 l s'.1 s'.2) l (fun c => c.Parents) id hl (fun k x out hx hk ho => by
    simp only [spec_l14Graph_l1]
    rw [ifT (by simpa using hk), geti_nat, hx, Option.bind_some, appn_in (by simp; omega), Option.bind_some, wkS k (by omega)]) (fun out => by
    simp only [spec_l14Graph_l1]
    rw [ifF (by simp)]
    rfl)]
  rfl
/-- A name is of a file, and of a version of it. -/
def nameIn (vs : List Int) (n : T_impl_Name) : Bool := !(decide (n.Id ≥ (vs.length : Int)) || decide (n.Version ≥ vs.getD n.Id.toNat 0))
def commitB (vs : List Int) (c : T_impl_Commit) : Bool := noteB c.Note && namesB c.Names && c.Names.all (nameIn vs)
def commitsB (l : List T_impl_Commit) (vs : List Int) : Bool := decide (l.length ≤ 40) && decide (vs.length ≤ 12) && gOk (graphC l) && (vs.all fun n => decide (0 ≤ n) && decide (n ≤ 40)) && l.all (commitB vs)
def smC (c : T_impl_Commit) : Prop := c.Note.size ≤ 1000000000 ∧ smN c.Names
theorem namesB_at {l : List T_impl_Name} (h : namesB l = true) {k : Nat} (hk : k < l.length) : nameAt l k = true := by
  unfold namesB at h
  rw [Bool.and_eq_true, List.all_eq_true] at h
  exact h.2 k (List.mem_range.2 hk)
theorem namesB_len {l : List T_impl_Name} (h : namesB l = true) : l.length ≤ 12 := by
  unfold namesB at h
  rw [Bool.and_eq_true, decide_eq_true_eq] at h
  exact h.1
theorem namesB_id {l : List T_impl_Name} (h : namesB l = true) {n : T_impl_Name} (hn : n ∈ l) : 0 ≤ n.Id ∧ n.Id ≤ 11 ∧ 0 ≤ n.Version ∧ n.Version ≤ 39 ∧ pathB n.Path = true := by
  obtain ⟨k, hk, rfl⟩ := List.getElem_of_mem hn
  have := namesB_at h hk
  unfold nameAt at this
  rw [getD_in hk] at this
  simp only [Bool.and_eq_true, decide_eq_true_eq] at this
  exact ⟨this.1.1.2.1, this.1.1.2.2, this.1.2.1, this.1.2.2, this.1.1.1.1⟩
theorem nameIn_eq {vs : List Int} {n : T_impl_Name} (h : 0 ≤ n.Id) : (if decide (n.Id ≥ (vs.length : Int)) = true then some true else (geti vs n.Id).bind fun x => some (decide (n.Version ≥ x))) = some (!nameIn vs n) := by
  unfold nameIn
  rw [Bool.not_not]
  by_cases q : n.Id ≥ (vs.length : Int)
  · rw [decide_eq_true q]
    rfl
  · rw [decide_eq_false q, ifF rfl, geti_in h (by omega), Option.bind_some, getD_in (by omega)]
    rfl
theorem commitsI_eq {l : List T_impl_Commit} {vs : List Int} (hl : l.length ≤ 2000000) (hs : ∀ c ∈ l, smC c) : impl_CommitsOk l vs = some (commitsB l vs) := by
  unfold impl_CommitsOk commitsB
  rw [graphI_eq (by omega)]
  simp only [Option.bind_some]
  rw [graphOkI_eq (by unfold graphC; simp; omega)]
  simp only [Option.bind_some, orO]
  by_cases q1 : l.length ≤ 40
  · have d1 : decide ((l.length : Int) > 40) = false := by simp; omega
    by_cases q2 : vs.length ≤ 12
    · have d2 : decide ((vs.length : Int) > 12) = false := by simp; omega
      rw [d1, d2, decide_eq_true q1, decide_eq_true q2]
      simp only [Bool.false_or, Bool.or_false, Bool.true_and]
      cases gOk (graphC l) with
      | false => rfl
      | true =>
        rw [ifF (by rfl), all_loopL vs (fun n => decide (0 ≤ n) && decide (n ≤ 40)) (fun k x hx hk => by
          unfold impl_CommitsOk_l3
          rw [ifT (by simpa using hk), geti_nat, hx]
          simp only [Option.bind_some, inRange_eq, wkS k (by omega)]
          exact fin_if rfl) (by
          unfold impl_CommitsOk_l3
          rw [ifF (by simp)]), Option.bind_some]
        cases vs.all (fun n => decide (0 ≤ n) && decide (n ≤ 40)) with
        | false => rfl
        | true =>
          simp only [if_true, Bool.true_and]
          unfold impl_CommitsOk_j1
          rw [all_loopL l (commitB vs) (fun k x hx hk => by
            have hm := List.mem_of_getElem? hx
            obtain ⟨s1, s2⟩ := hs x hm
            unfold impl_CommitsOk_l1
            rw [ifT (by simpa using hk), geti_nat, hx]
            simp only [Option.bind_some]
            rw [noteI_eq s1, namesI_eq s2]
            simp only [Option.bind_some, orO]
            unfold commitB
            cases noteB x.Note with
            | false => rfl
            | true =>
              cases qn : namesB x.Names with
              | false => rfl
              | true =>
                rw [ifF (by rfl), all_loopL x.Names (nameIn vs) (fun j n hn hj => by
                  unfold impl_CommitsOk_l2
                  have := namesB_id qn (List.mem_of_getElem? hn)
                  have := namesB_len qn
                  rw [ifT (by simpa using hj), geti_nat, hn, Option.bind_some, nameIn_eq (by omega)]
                  simp only [Option.bind_some, wkS j (show j < 1000000000 by omega)]
                  exact fin_if rfl) (by
                  unfold impl_CommitsOk_l2
                  rw [ifF (by simp)]), Option.bind_some]
                cases x.Names.all (nameIn vs) with
                | false => rfl
                | true => simp only [if_true, impl_CommitsOk_j3, wkS k (show k < 1000000000 by omega), Bool.true_and]) (by
            unfold impl_CommitsOk_l1
            rw [ifF (by simp)]), Option.bind_some]
          cases l.all (commitB vs) <;> rfl
    · have d2 : decide ((vs.length : Int) > 12) = true := by simp; omega
      rw [d2, decide_eq_false q2]
      simp
  · have d1 : decide ((l.length : Int) > 40) = true := by simp; omega
    rw [d1, decide_eq_false q1]
    simp
theorem commitsS_eq {l : List T_impl_Commit} {vs : List Int} (hl : l.length ≤ 2000000) (hs : ∀ c ∈ l, smC c) : spec_CommitsOk l vs = some (commitsB l vs) := by
  unfold spec_CommitsOk commitsB
  rw [graphS_eq (by omega)]
  simp only [Option.bind_some]
  rw [graphOkS_eq (by unfold graphC; simp; omega)]
  simp only [Option.bind_some, orO]
  by_cases q1 : l.length ≤ 40
  · have d1 : decide ((l.length : Int) > 40) = false := by simp; omega
    by_cases q2 : vs.length ≤ 12
    · have d2 : decide ((vs.length : Int) > 12) = false := by simp; omega
      rw [d1, d2, decide_eq_true q1, decide_eq_true q2]
      simp only [Bool.false_or, Bool.or_false, Bool.true_and]
      cases gOk (graphC l) with
      | false => rfl
      | true =>
        rw [ifF (by rfl), all_loopL vs (fun n => decide (0 ≤ n) && decide (n ≤ 40)) (fun k x hx hk => by
          unfold spec_CommitsOk_l3
          rw [ifT (by simpa using hk), geti_nat, hx]
          simp only [Option.bind_some, l01In_eq, wkS k (by omega)]
          exact fin_if rfl) (by
          unfold spec_CommitsOk_l3
          rw [ifF (by simp)]), Option.bind_some]
        cases vs.all (fun n => decide (0 ≤ n) && decide (n ≤ 40)) with
        | false => rfl
        | true =>
          simp only [if_true, Bool.true_and]
          unfold spec_CommitsOk_j1
          rw [all_loopL l (commitB vs) (fun k x hx hk => by
            have hm := List.mem_of_getElem? hx
            obtain ⟨s1, s2⟩ := hs x hm
            unfold spec_CommitsOk_l1
            rw [ifT (by simpa using hk), geti_nat, hx]
            simp only [Option.bind_some]
            rw [noteS_eq s1, namesS_eq s2]
            simp only [Option.bind_some, orO]
            unfold commitB
            cases noteB x.Note with
            | false => rfl
            | true =>
              cases qn : namesB x.Names with
              | false => rfl
              | true =>
                rw [ifF (by rfl), all_loopL x.Names (nameIn vs) (fun j n hn hj => by
                  unfold spec_CommitsOk_l2
                  have := namesB_id qn (List.mem_of_getElem? hn)
                  have := namesB_len qn
                  rw [geti_nat, hx, Option.bind_some, ifT (by simpa using hj), geti_nat, hn, Option.bind_some, nameIn_eq (by omega)]
                  simp only [Option.bind_some, wkS j (show j < 1000000000 by omega)]
                  exact fin_if rfl) (by
                  unfold spec_CommitsOk_l2
                  rw [geti_nat, hx, Option.bind_some, ifF (by simp)]), Option.bind_some]
                cases x.Names.all (nameIn vs) with
                | false => rfl
                | true => simp only [if_true, spec_CommitsOk_j3, wkS k (show k < 1000000000 by omega), Bool.true_and]) (by
            unfold spec_CommitsOk_l1
            rw [ifF (by simp)]), Option.bind_some]
          cases l.all (commitB vs) <;> rfl
    · have d2 : decide ((vs.length : Int) > 12) = true := by simp; omega
      rw [d2, decide_eq_false q2]
      simp
  · have d1 : decide ((l.length : Int) > 40) = true := by simp; omega
    rw [d1, decide_eq_false q1]
    simp
end Go.TV.F
/- Plain Lean: LogOf is the reference's. -/
namespace Go.TV.F
open Go.TV
theorem reverse_eq {l : List Int} (hl : l.length ≤ 1000000000) : slices_Reverse_int_int l = some l.reverse := by
  unfold slices_Reverse_int_int
  rw [wk64 (by omega) (by omega)]
  obtain ⟨r, h1, h2⟩ := loopM_total (body := fun (s' : Int × Int × (List Int)) => slices_Reverse_int_int_l1 s'.1 s'.2.1 s'.2.2) (fun s => ∃ i : Nat, s.1 = i ∧ s.2.1 = (l.length : Int) - 1 - i ∧ 2 * i ≤ l.length + 1 ∧ s.2.2.length = l.length ∧ ∀ m, m < l.length → s.2.2[m]? = if m < i ∨ l.length ≤ m + i then l[l.length - 1 - m]? else l[m]?) (fun s => (l.length - s.1).toNat) (fun r => r = l.reverse) (s := (0, (l.length : Int) - 1, l))
    ⟨0, rfl, by simp, by omega, rfl, fun m hm => by rw [if_neg (by omega)]⟩ (fun s hs => by
    obtain ⟨i', j', t⟩ := s
    obtain ⟨i, h1, h2, h3, h4, h5⟩ := hs
    simp only at h1 h2 h4 h5 ⊢
    subst h1 h2
    unfold slices_Reverse_int_int_l1
    by_cases q : (i : Int) < (l.length : Int) - 1 - i
    · left
      obtain ⟨j, hj⟩ : ∃ j : Nat, j = l.length - 1 - i := ⟨_, rfl⟩
      have ej : (l.length : Int) - 1 - i = (j : Int) := by omega
      have g1 : t[j]? = l[j]? := by rw [h5 j (by omega), if_neg (by omega)]
      have g2 : t[i]? = l[i]? := by rw [h5 i (by omega), if_neg (by omega)]
      rw [ifT (by simpa using q), ej, geti_nat, g1, List.getElem?_eq_getElem (by omega), Option.bind_some, geti_nat, g2, List.getElem?_eq_getElem (by omega), Option.bind_some, geti_nat, Int.toNat_natCast, Int.toNat_natCast]
      rw [List.getElem?_eq_getElem (show j < (t.set i l[j]).length by simp; omega), Option.bind_some, wk64 (by omega) (by omega), wk64 (by omega) (by omega)]
      refine ⟨_, rfl, ⟨i + 1, by simp, by simp only; omega, by omega, by simp [h4], fun m hm => ?_⟩, by simp only; omega⟩
      simp only [List.getElem?_set, List.length_set]
      by_cases e1 : j = m
      · subst e1
        rw [if_pos rfl, if_pos (by omega), if_pos (by omega), ← List.getElem?_eq_getElem]
        congr 1
        omega
      · rw [if_neg e1]
        by_cases e2 : i = m
        · subst e2
          rw [if_pos rfl, if_pos (by omega), if_pos (by omega), ← List.getElem?_eq_getElem, hj]
        · rw [if_neg e2, h5 m hm]
          by_cases e3 : m < i ∨ l.length ≤ m + i
          · rw [if_pos e3, if_pos (by omega)]
          · rw [if_neg e3, if_neg (by omega)]
    · right
      rw [ifF (by simpa using q)]
      refine ⟨_, rfl, ?_⟩
      apply List.ext_getElem?
      intro m
      by_cases hm : m < l.length
      · rw [h5 m hm, List.getElem?_reverse hm]
        split
        · rfl
        · congr 1
          omega
      · rw [List.getElem?_eq_none (by omega), List.getElem?_eq_none (by simp; omega)])
  rw [h1, h2]
  rfl
/-- The log of a commit. -/
def logR (l : List T_impl_Commit) (vs : List Int) (c : Int) : List Int := if (decide (0 ≤ c) && decide (c < l.length) && commitsB l vs) = true then (ints (bitsL (clo (graphC l) c.toNat) 64)).reverse else []
theorem logI_eq {l : List T_impl_Commit} {vs : List Int} {c : Int} (hl : l.length ≤ 2000000) (hs : ∀ c ∈ l, smC c) : impl_LogOf l vs c = some (logR l vs c) := by
  unfold impl_LogOf logR
  rw [isPlace_eq (by omega) (by omega), Option.bind_some, commitsI_eq hl hs]
  simp only [Option.bind_some, orO]
  cases q1 : (decide (0 ≤ c) && decide (c < (l.length : Int))) with
  | false => rfl
  | true =>
    cases q2 : commitsB l vs with
    | false => rfl
    | true =>
      simp only [Bool.and_eq_true, decide_eq_true_eq] at q1
      have hg : gOk (graphC l) = true := by
        unfold commitsB at q2
        simp only [Bool.and_eq_true] at q2
        exact q2.1.1.2
      have hlen : (graphC l).length = l.length := by unfold graphC; simp
      rw [ifF (by rfl), graphI_eq (by omega), Option.bind_some, closures_eq hg, Option.bind_some]
      have hget : geti (us (closN (graphC l) (graphC l).length)) c = some ((clo (graphC l) c.toNat : Nat) : Int) := by
        rw [geti_in q1.1 (by unfold us; simp [closN_len, hlen]; omega)]
        unfold us clo
        congr 1
        rw [List.getElem_map, getD_in (by rw [closN_len]; omega)]
      rw [hget, Option.bind_some, setList_eq (clo_lt hg _), Option.bind_some, reverse_eq (by rw [ints_len]; have := bitsL_len (clo (graphC l) c.toNat) 64; omega)]
      rfl
theorem logS_eq {l : List T_impl_Commit} {vs : List Int} {c : Int} (hl : l.length ≤ 2000000) (hs : ∀ c ∈ l, smC c) : spec_LogOf l vs c = some (logR l vs c) := by
  unfold spec_LogOf logR
  rw [commitsS_eq hl hs, l01In_eq]
  simp only [Option.bind_some, orO]
  rw [wk64 (by omega) (by omega)]
  have e : (decide (0 ≤ c) && decide (c ≤ (l.length : Int) - 1)) = (decide (0 ≤ c) && decide (c < (l.length : Int))) := by
    congr 1
    rw [decide_eq_decide]
    omega
  rw [e]
  cases q1 : (decide (0 ≤ c) && decide (c < (l.length : Int))) with
  | false => cases commitsB l vs <;> rfl
  | true =>
    cases q2 : commitsB l vs with
    | false => rfl
    | true =>
      simp only [Bool.and_eq_true, decide_eq_true_eq] at q1
      have hg : gOk (graphC l) = true := by
        unfold commitsB at q2
        simp only [Bool.and_eq_true] at q2
        exact q2.1.1.2
      have hlen : (graphC l).length = l.length := by unfold graphC; simp
      rw [ifF (by rfl), graphS_eq (by omega), Option.bind_some, l05Set_eq hg (by simp), Option.bind_some]
      have hsl := setL_len (graphC l) [c]
      have run : ∀ (m : Nat) (out : List Int), m ≤ l.length → out.length + m ≤ 1000000000 → loopM (fun (s' : Int × (List Int)) => spec_LogOf_l1 (setL (graphC l) [c]) s'.1 s'.2) ((m : Int) - 1, out) = some (out ++ (ints (trues (setL (graphC l) [c]) m)).reverse) := by
        intro m
        induction m with
        | zero =>
          intro out _ _
          rw [loopM_eq]
          simp only [spec_LogOf_l1]
          rw [ifF (by simp)]
          simp [trues, ints]
        | succ m ih =>
          intro out h1 h2
          rw [loopM_eq]
          simp only [spec_LogOf_l1]
          have em : ((m + 1 : Nat) : Int) - 1 = (m : Int) := by omega
          rw [em, ifT (by simp), geti_nat, List.getElem?_eq_getElem (by omega), Option.bind_some, wk64 (by omega) (by omega)]
          have eg : (setL (graphC l) [c]).getD m false = (setL (graphC l) [c])[m]'(by omega) := getD_in (by omega)
          rw [trues_succ, eg]
          cases hb : (setL (graphC l) [c])[m]'(by omega) with
          | true =>
            rw [ifT rfl, ifT rfl, appn_in (by simp; omega)]
            simp only [Option.bind_some]
            refine (ih (out ++ [(m : Int)]) (by omega) (by simp; omega)).trans ?_
            simp [ints]
          | false =>
            rw [ifF rfl, ifF rfl]
            simp only [Option.bind_some]
            exact ih out (by omega) (by omega)
      have hm := run l.length [] (by omega) (by simp; omega)
      rw [hm, List.nil_append, Option.bind_some]
      have hb := setL_bits hg [c] (fun x hx => by simp at hx; subst hx; omega)
      rw [hlen] at hb
      rw [hb, hlen.symm]
      have eo : orL (closN (graphC l) (graphC l).length) [c] = clo (graphC l) c.toNat := by
        unfold orL clo
        simp
      rw [eo]
      rfl
theorem logR_len (l : List T_impl_Commit) (vs : List Int) (c : Int) : (logR l vs c).length ≤ 64 := by
  unfold logR
  split
  · rw [List.length_reverse, ints_len]
    exact bitsL_len _ _
  · simp
end Go.TV.F
/- Plain Lean: how large things are, copies, compares, marks. Written by a program. -/
namespace Go.TV.F
open Go.TV
theorem markText_total {k : Nat} (h : k ≤ 1000000000) : ∃ t, laws_markText (k : Int) = some t := by
  unfold laws_markText
  by_cases q : k = 0
  · subst q
    exact ⟨_, rfl⟩
  rw [ifF (by simp; omega)]
  obtain ⟨r, h1, h2⟩ := loopK1 (f := fun (s' : Int × ByteArray) => laws_markText_l1 s'.1 s'.2) (fun s => ∃ n : Nat, s.1 = n ∧ n + s.2.size ≤ 1000000000) (fun s => s.1.toNat) (fun r => r.size ≤ 1000000000)
    (s := ((k : Int), ByteArray.mk #[])) ⟨k, rfl, h⟩ (fun s hs => by
    obtain ⟨n, h1, h2⟩ := hs
    obtain ⟨x, out⟩ := s
    simp only at h1 h2 ⊢
    subst h1
    unfold laws_markText_l1
    by_cases q : n = 0
    · rw [ifF (by simp; omega)]
      exact .inr ⟨_, rfl, by omega⟩
    · rw [ifT (by simp; omega)]
      generalize hz : mkS [wk .u8 (wk .i64 (48 + ((n : Int)).tmod 10))] = z
      have hzs : z.size = 1 := by rw [← hz, mkSK]; rfl
      rw [sapp_in (by omega), Option.bind_some, show (10 : Int) = ((10 : Nat) : Int) from rfl, tdivK, wk64 (by omega) (by omega)]
      refine .inl ⟨_, rfl, ⟨n / 10, rfl, ?_⟩, ?_⟩
      · simp only [ByteArray.size_append]
        omega
      · simp only
        omega)
  rw [h1, Option.bind_some]
  unfold laws_markText_j1
  rw [sapp_in (by have : (ByteArray.mk #[109]).size = 1 := rfl; omega)]
  exact ⟨_, rfl⟩
noncomputable def mT (k : Int) : ByteArray := (laws_markText k).getD (ByteArray.mk #[])
theorem markText_eq {k : Int} (h0 : 0 ≤ k) (h : k ≤ 1000000000) : laws_markText k = some (mT k) := by
  obtain ⟨n, rfl⟩ : ∃ n : Nat, k = n := ⟨k.toNat, by omega⟩
  obtain ⟨t, ht⟩ := markText_total (k := n) (by omega)
  unfold mT
  rw [ht]
  rfl
def w_IntS (a : List Int) : Nat := a.length
def ok_IntS (a : List Int) : Prop := a.length ≤ LB
def sm_IntS (a : List Int) : Prop := a.length * 8 ≤ 140737488351232 ∧ ∀ x ∈ a, (Lit.int .i64 x).wf = true
theorem ok_of_IntS {a : List Int} (h : sm_IntS a) : ok_IntS a := by have := h.1; unfold ok_IntS LB; omega
def c_IntS (a : List Int) : List Int := a
theorem sz_IntS {a : List Int} {s : Int} (h : ok_IntS a) (h0 : 0 ≤ s) (h1 : s ≤ 1048576) : laws_szIntS a s = some (if (w_IntS a : Int) ≤ s then s - w_IntS a else -1) := by
  have hl : a.length ≤ 1000000000000000 := h
  unfold laws_szIntS w_IntS
  rw [wk64 (x := s - (a.length : Int)) (by omega) (by omega)]
  by_cases q : s - (a.length : Int) < 0
  · rw [ifT (by simpa using q), if_neg (by omega)]
  · rw [ifF (by simpa using q), if_pos (by omega)]
theorem to_IntS {a : List Int} (h : w_IntS a ≤ 1048576) : laws_toIntS a = some (c_IntS a) := by
  have hl : a.length ≤ 1048576 := by unfold w_IntS at h; omega
  unfold laws_toIntS
  rw [mkl_in (by omega) (by omega), Option.bind_some, Int.toNat_natCast]
  have := to_loop (body := fun (s' : Int × (List Int)) => laws_toIntS_l1 a s'.1 s'.2) a (fun x => x) 0 (fun i x out hi hl2 => by
    have hlt := (List.getElem?_eq_some_iff.1 hi).1
    show laws_toIntS_l1 a i out = _
    unfold laws_toIntS_l1
    rw [ifT (by simpa using hlt), geti_nat, hi, Option.bind_some]
    rw [geti_nat, List.getElem?_eq_getElem (by omega), Option.bind_some, wk64 (by omega) (by omega), Int.toNat_natCast]
    rfl) (fun out hl2 => by
    show laws_toIntS_l1 a a.length out = _
    unfold laws_toIntS_l1
    rw [ifF (by simp)])
  rw [this]
  show some (a.map (fun x => x)) = some a
  rw [List.map_id']
def w_Name (a : T_laws_Name) : Nat := a.Path.size
def ok_Name (a : T_laws_Name) : Prop := a.Path.size ≤ LB
def sm_Name (a : T_laws_Name) : Prop := a.Path.size ≤ 140737488351232 ∧ (Lit.int .i64 a.Id).wf = true ∧ (Lit.int .i64 a.Version).wf = true
theorem ok_of_Name {a : T_laws_Name} (h : sm_Name a) : ok_Name a := Nat.le_trans h.1 (by decide)
def c_Name (a : T_laws_Name) : T_impl_Name := ⟨a.Path, a.Id, a.Version⟩
theorem sz_Name {a : T_laws_Name} {s : Int} (h : ok_Name a) (h0 : 0 ≤ s) (h1 : s ≤ 1048576) : laws_szName a s = some (if (w_Name a : Int) ≤ s then s - w_Name a else -1) := by
  unfold ok_Name at h
  have o0 := h
  have p0 : a.Path.size ≤ 1000000000000000 := o0
  unfold laws_szName w_Name
  rw [wk64 (x := s - (a.Path.size : Int)) (by omega) (by omega)]
  by_cases q0 : s - (a.Path.size : Int) < 0
  · rw [ifT (by simpa using q0), if_neg (by omega)]
  rw [ifF (by simpa using q0)]
  exact congrArg some (by split <;> omega)
theorem to_Name {a : T_laws_Name} (h : w_Name a ≤ 1048576) : laws_toName a = some (c_Name a) := by
  unfold w_Name at h
  unfold laws_toName
  rfl
def w_NameS (a : List T_laws_Name) : Nat := a.length + sumOf w_Name a
def ok_NameS (a : List T_laws_Name) : Prop := a.length ≤ LB ∧ ∀ x ∈ a, ok_Name x
def sm_NameS (a : List T_laws_Name) : Prop := a.length * 32 ≤ 140737488351232 ∧ ∀ x ∈ a, sm_Name x
theorem ok_of_NameS {a : List T_laws_Name} (h : sm_NameS a) : ok_NameS a := ⟨by have := h.1; unfold LB; omega, fun x hx => ok_of_Name (h.2 x hx)⟩
def c_NameS (a : List T_laws_Name) : List T_impl_Name := a.map c_Name
theorem sz_NameS {a : List T_laws_Name} {s : Int} (h : ok_NameS a) (h0 : 0 ≤ s) (h1 : s ≤ 1048576) : laws_szNameS a s = some (if (w_NameS a : Int) ≤ s then s - w_NameS a else -1) := by
  have hl : a.length ≤ 1000000000000000 := h.1
  unfold laws_szNameS w_NameS
  rw [wk64 (x := s - (a.length : Int)) (by omega) (by omega)]
  by_cases q : s - (a.length : Int) < 0
  · rw [ifT (by simpa using q), if_neg (by omega)]
  · rw [ifF (by simpa using q)]
    have := sz_loop (body := fun (s' : Int × Int) => laws_szNameS_l1 a s'.1 s'.2) w_Name a (s - a.length) (by omega) (fun t i x hi h2 h3 => by
      have hlt := (List.getElem?_eq_some_iff.1 hi).1
      have hxs := h.2 x (List.mem_of_getElem? hi)
      show laws_szNameS_l1 a t i = _
      unfold laws_szNameS_l1
      rw [ifT (by simpa using hlt), geti_nat, hi, Option.bind_some, sz_Name hxs h2 (by omega), Option.bind_some]
      by_cases q2 : (w_Name x : Int) ≤ t
      · rw [if_pos q2, ifF (by simp; omega), if_pos q2, wk64 (by omega) (by omega)]
        rfl
      · rw [if_neg q2, ifT (by simp), if_neg q2]) (fun t => by
      show laws_szNameS_l1 a t a.length = _
      unfold laws_szNameS_l1
      rw [ifF (by simp)])
    rw [this, Option.bind_some]
    by_cases q2 : (sumOf w_Name a : Int) ≤ s - a.length
    · rw [if_pos q2, if_pos (by omega)]
      simp only [laws_szNameS_j1]
      congr 1
      omega
    · rw [if_neg q2, if_neg (by omega)]
theorem to_NameS {a : List T_laws_Name} (h : w_NameS a ≤ 1048576) : laws_toNameS a = some (c_NameS a) := by
  have hl : a.length ≤ 1048576 := by unfold w_NameS at h; omega
  unfold laws_toNameS
  rw [mkl_in (by omega) (by omega), Option.bind_some, Int.toNat_natCast]
  have := to_loop (body := fun (s' : Int × (List T_impl_Name)) => laws_toNameS_l1 a s'.1 s'.2) a (fun x => c_Name x) (T_impl_Name.mk (ByteArray.mk #[]) 0 0) (fun i x out hi hl2 => by
    have hlt := (List.getElem?_eq_some_iff.1 hi).1
    have hw : w_Name x ≤ 1048576 := by have := sumOf_mem (w := w_Name) (List.mem_of_getElem? hi); unfold w_NameS at h; omega
    show laws_toNameS_l1 a i out = _
    unfold laws_toNameS_l1
    rw [ifT (by simpa using hlt), geti_nat, hi, Option.bind_some]
    rw [to_Name hw, Option.bind_some]
    rw [geti_nat, List.getElem?_eq_getElem (by omega), Option.bind_some, wk64 (by omega) (by omega), Int.toNat_natCast]
    rfl) (fun out hl2 => by
    show laws_toNameS_l1 a a.length out = _
    unfold laws_toNameS_l1
    rw [ifF (by simp)])
  rw [this]
  show some (a.map (fun x => c_Name x)) = some (c_NameS a)
  rfl
def w_Commit (a : T_laws_Commit) : Nat := w_IntS a.Parents + a.Note.size + w_NameS a.Names
def ok_Commit (a : T_laws_Commit) : Prop := ok_IntS a.Parents ∧ a.Note.size ≤ LB ∧ ok_NameS a.Names
def sm_Commit (a : T_laws_Commit) : Prop := sm_IntS a.Parents ∧ a.Note.size ≤ 140737488351232 ∧ sm_NameS a.Names
theorem ok_of_Commit {a : T_laws_Commit} (h : sm_Commit a) : ok_Commit a := ⟨ok_of_IntS h.1, Nat.le_trans h.2.1 (by decide), ok_of_NameS h.2.2⟩
def c_Commit (a : T_laws_Commit) : T_impl_Commit := ⟨a.Parents, a.Note, c_NameS a.Names⟩
theorem sz_Commit {a : T_laws_Commit} {s : Int} (h : ok_Commit a) (h0 : 0 ≤ s) (h1 : s ≤ 1048576) : laws_szCommit a s = some (if (w_Commit a : Int) ≤ s then s - w_Commit a else -1) := by
  unfold ok_Commit at h
  obtain ⟨o0, o1, o2⟩ := h
  have p1 : a.Note.size ≤ 1000000000000000 := o1
  unfold laws_szCommit w_Commit
  rw [sz_IntS o0 (by omega) (by omega), Option.bind_some]
  by_cases q0 : (w_IntS a.Parents : Int) ≤ s
  case neg => rw [if_neg q0, ifT (by simp), if_neg (by omega)]
  rw [if_pos q0, ifF (by simp; omega)]
  rw [wk64 (x := s - (w_IntS a.Parents : Int) - (a.Note.size : Int)) (by omega) (by omega)]
  by_cases q1 : s - (w_IntS a.Parents : Int) - (a.Note.size : Int) < 0
  · rw [ifT (by simpa using q1), if_neg (by omega)]
  rw [ifF (by simpa using q1)]
  rw [sz_NameS o2 (by omega) (by omega), Option.bind_some]
  by_cases q2 : (w_NameS a.Names : Int) ≤ s - (w_IntS a.Parents : Int) - (a.Note.size : Int)
  case neg => rw [if_neg q2, ifT (by simp), if_neg (by omega)]
  rw [if_pos q2, ifF (by simp; omega)]
  exact congrArg some (by split <;> omega)
theorem to_Commit {a : T_laws_Commit} (h : w_Commit a ≤ 1048576) : laws_toCommit a = some (c_Commit a) := by
  unfold w_Commit at h
  unfold laws_toCommit
  rw [to_IntS (by omega), Option.bind_some]
  rw [to_NameS (by omega), Option.bind_some]
  rfl
def w_CommitS (a : List T_laws_Commit) : Nat := a.length + sumOf w_Commit a
def ok_CommitS (a : List T_laws_Commit) : Prop := a.length ≤ LB ∧ ∀ x ∈ a, ok_Commit x
def sm_CommitS (a : List T_laws_Commit) : Prop := a.length * 64 ≤ 140737488351232 ∧ ∀ x ∈ a, sm_Commit x
theorem ok_of_CommitS {a : List T_laws_Commit} (h : sm_CommitS a) : ok_CommitS a := ⟨by have := h.1; unfold LB; omega, fun x hx => ok_of_Commit (h.2 x hx)⟩
def c_CommitS (a : List T_laws_Commit) : List T_impl_Commit := a.map c_Commit
theorem sz_CommitS {a : List T_laws_Commit} {s : Int} (h : ok_CommitS a) (h0 : 0 ≤ s) (h1 : s ≤ 1048576) : laws_szCommitS a s = some (if (w_CommitS a : Int) ≤ s then s - w_CommitS a else -1) := by
  have hl : a.length ≤ 1000000000000000 := h.1
  unfold laws_szCommitS w_CommitS
  rw [wk64 (x := s - (a.length : Int)) (by omega) (by omega)]
  by_cases q : s - (a.length : Int) < 0
  · rw [ifT (by simpa using q), if_neg (by omega)]
  · rw [ifF (by simpa using q)]
    have := sz_loop (body := fun (s' : Int × Int) => laws_szCommitS_l1 a s'.1 s'.2) w_Commit a (s - a.length) (by omega) (fun t i x hi h2 h3 => by
      have hlt := (List.getElem?_eq_some_iff.1 hi).1
      have hxs := h.2 x (List.mem_of_getElem? hi)
      show laws_szCommitS_l1 a t i = _
      unfold laws_szCommitS_l1
      rw [ifT (by simpa using hlt), geti_nat, hi, Option.bind_some, sz_Commit hxs h2 (by omega), Option.bind_some]
      by_cases q2 : (w_Commit x : Int) ≤ t
      · rw [if_pos q2, ifF (by simp; omega), if_pos q2, wk64 (by omega) (by omega)]
        rfl
      · rw [if_neg q2, ifT (by simp), if_neg q2]) (fun t => by
      show laws_szCommitS_l1 a t a.length = _
      unfold laws_szCommitS_l1
      rw [ifF (by simp)])
    rw [this, Option.bind_some]
    by_cases q2 : (sumOf w_Commit a : Int) ≤ s - a.length
    · rw [if_pos q2, if_pos (by omega)]
      simp only [laws_szCommitS_j1]
      congr 1
      omega
    · rw [if_neg q2, if_neg (by omega)]
theorem to_CommitS {a : List T_laws_Commit} (h : w_CommitS a ≤ 1048576) : laws_toCommitS a = some (c_CommitS a) := by
  have hl : a.length ≤ 1048576 := by unfold w_CommitS at h; omega
  unfold laws_toCommitS
  rw [mkl_in (by omega) (by omega), Option.bind_some, Int.toNat_natCast]
  have := to_loop (body := fun (s' : Int × (List T_impl_Commit)) => laws_toCommitS_l1 a s'.1 s'.2) a (fun x => c_Commit x) (T_impl_Commit.mk [] (ByteArray.mk #[]) []) (fun i x out hi hl2 => by
    have hlt := (List.getElem?_eq_some_iff.1 hi).1
    have hw : w_Commit x ≤ 1048576 := by have := sumOf_mem (w := w_Commit) (List.mem_of_getElem? hi); unfold w_CommitS at h; omega
    show laws_toCommitS_l1 a i out = _
    unfold laws_toCommitS_l1
    rw [ifT (by simpa using hlt), geti_nat, hi, Option.bind_some]
    rw [to_Commit hw, Option.bind_some]
    rw [geti_nat, List.getElem?_eq_getElem (by omega), Option.bind_some, wk64 (by omega) (by omega), Int.toNat_natCast]
    rfl) (fun out hl2 => by
    show laws_toCommitS_l1 a a.length out = _
    unfold laws_toCommitS_l1
    rw [ifF (by simp)])
  rw [this]
  show some (a.map (fun x => c_Commit x)) = some (c_CommitS a)
  rfl
def z_IntS (a : List Int) : Nat := a.length
def n_IntS (a : List Int) : Nat := sumOf (fun _ => 1) a
noncomputable def m_IntS (a : List Int) (k : Int) : List Int := mkL (fun _ => 1) (fun _ k => k) a k
theorem eq_IntS {a : List Int} (h : z_IntS a ≤ 1000000000) : laws_eqIntS a a = some true := by
  have hl : a.length ≤ 1000000000 := by unfold z_IntS at h; omega
  unfold laws_eqIntS
  rw [ifF (by simp)]
  have := eq_loop (body := fun s' => laws_eqIntS_l1 a a s') (r := .inr ()) a.length (fun i hi => by
    unfold laws_eqIntS_l1
    rw [ifT (by simpa using hi), geti_nat, List.getElem?_eq_getElem hi, Option.bind_some, Option.bind_some]
    rw [ifF (by simp), wk64 (by omega) (by omega)]
    rfl) (by
    unfold laws_eqIntS_l1
    rw [ifF (by simp)])
  rw [this]
  rfl
theorem mark_IntS {a : List Int} {k : Int} (h1 : 1 ≤ k) (h2 : k + n_IntS a ≤ 1000000000) (h3 : z_IntS a ≤ 1000000000) : laws_markIntS a k = some (k + n_IntS a, m_IntS a k) := by
  have hl : a.length ≤ 1000000000 := by unfold z_IntS at h3; omega
  unfold laws_markIntS
  have := mark_loop (body := fun (s' : Int × Int × (List Int)) => laws_markIntS_l1 s'.1 s'.2.1 s'.2.2) (fun _ => 1) (fun _ k => k) a k 1000000000 h1 h2 (fun k i x l hi hx hl2 hk hB => by
    have hlt : i < l.length := (List.getElem?_eq_some_iff.1 hi).1
    show laws_markIntS_l1 k i l = _
    unfold laws_markIntS_l1
    rw [ifT (by simp; omega)]
    simp (disch := first | omega | (simp only; omega)) only [markText_eq, wk64, geti_nat, gset, hi, Option.bind_some, List.set_set, Int.toNat_natCast]
    refine inl3 ?_ (by omega) rfl
    rfl) (fun k l hl2 => by
    show laws_markIntS_l1 k a.length l = _
    unfold laws_markIntS_l1
    rw [ifF (by simp; omega)])
  rw [this]
  rfl
theorem held_IntS {a : List Int} {k : Int} (h1 : 1 ≤ k) (h2 : k + n_IntS a ≤ 1000000000) (h3 : z_IntS a ≤ 1000000000) : laws_heldIntS (m_IntS a k) k = some (k + n_IntS a) := by
  have hl : a.length ≤ 1000000000 := by unfold z_IntS at h3; omega
  unfold laws_heldIntS
  have := held_loop (body := fun (s' : Int × Int) => laws_heldIntS_l1 (m_IntS a k) s'.1 s'.2) (r := .inr) (fun _ => 1) (fun _ k => k) a k 1000000000 h1 h2 (fun q i x hi hlt hx hk hB => by
    have hi : (m_IntS a k)[i]? = some (q) := hi
    have hml : (m_IntS a k).length = a.length := mkL_len _ _ _ _
    show laws_heldIntS_l1 (m_IntS a k) q i = _
    unfold laws_heldIntS_l1
    rw [ifT (by rw [hml]; simpa using hlt)]
    simp (disch := omega) only [geti_nat, hi, Option.bind_some, markText_eq, wk64, bne_self_eq_false, BEq.rfl, Bool.not_true, Bool.false_eq_true, if_false, ltF]
    refine inl2 ?_ (by omega)
    rfl) (fun q => by
    have hml : (m_IntS a k).length = a.length := mkL_len _ _ _ _
    show laws_heldIntS_l1 (m_IntS a k) q a.length = _
    unfold laws_heldIntS_l1
    rw [ifF (by rw [hml]; simp)])
  rw [this]
  rfl
def z_Name (a : T_impl_Name) : Nat := 0
def n_Name (a : T_impl_Name) : Nat := 1 + 1 + 1
noncomputable def m_Name (a : T_impl_Name) (k : Int) : T_impl_Name := ⟨mT (k), k + 1, k + 1 + 1⟩
theorem eq_Name {a : T_impl_Name} (h : z_Name a ≤ 1000000000) : laws_eqName a a = some true := by
  unfold z_Name at h
  unfold laws_eqName
  simp only [Option.bind_some, Bool.not_true, Bool.false_eq_true, if_false, bne_self_eq_false, BEq.rfl]
def z_NameS (a : List T_impl_Name) : Nat := a.length + sumOf z_Name a
def n_NameS (a : List T_impl_Name) : Nat := sumOf n_Name a
noncomputable def m_NameS (a : List T_impl_Name) (k : Int) : List T_impl_Name := mkL n_Name m_Name a k
theorem eq_NameS {a : List T_impl_Name} (h : z_NameS a ≤ 1000000000) : laws_eqNameS a a = some true := by
  have hl : a.length ≤ 1000000000 := by unfold z_NameS at h; omega
  unfold laws_eqNameS
  rw [ifF (by simp)]
  have := eq_loop (body := fun s' => laws_eqNameS_l1 a a s') (r := .inr ()) a.length (fun i hi => by
    have hw : z_Name a[i] ≤ 1000000000 := by have := sumOf_mem (w := z_Name) (List.getElem_mem hi); unfold z_NameS at h; omega
    unfold laws_eqNameS_l1
    rw [ifT (by simpa using hi), geti_nat, List.getElem?_eq_getElem hi, Option.bind_some, Option.bind_some]
    rw [eq_Name hw, Option.bind_some]
    rw [ifF (by simp), wk64 (by omega) (by omega)]
    rfl) (by
    unfold laws_eqNameS_l1
    rw [ifF (by simp)])
  rw [this]
  rfl
theorem mark_NameS {a : List T_impl_Name} {k : Int} (h1 : 1 ≤ k) (h2 : k + n_NameS a ≤ 1000000000) (h3 : z_NameS a ≤ 1000000000) : laws_markNameS a k = some (k + n_NameS a, m_NameS a k) := by
  have hl : a.length ≤ 1000000000 := by unfold z_NameS at h3; omega
  unfold laws_markNameS
  have := mark_loop (body := fun (s' : Int × Int × (List T_impl_Name)) => laws_markNameS_l1 s'.1 s'.2.1 s'.2.2) n_Name m_Name a k 1000000000 h1 h2 (fun k i x l hi hx hl2 hk hB => by
    have hlt : i < l.length := (List.getElem?_eq_some_iff.1 hi).1
    have hz : z_Name x ≤ 1000000000 := by have := sumOf_mem (w := z_Name) hx; unfold z_NameS at h3; omega
    unfold z_Name at hz
    simp only [n_Name, Int.natCast_add, Int.natCast_one, Int.cast_ofNat_Int] at hB
    show laws_markNameS_l1 k i l = _
    unfold laws_markNameS_l1
    rw [ifT (by simp; omega)]
    simp (disch := first | omega | (simp only; omega)) only [markText_eq, wk64, geti_nat, gset, hi, Option.bind_some, List.set_set, Int.toNat_natCast]
    refine inl3 ?_ (by omega) rfl
    simp only [n_Name, Int.natCast_add, Int.natCast_one]; omega) (fun k l hl2 => by
    show laws_markNameS_l1 k a.length l = _
    unfold laws_markNameS_l1
    rw [ifF (by simp; omega)])
  rw [this]
  rfl
def z_Commit (a : T_impl_Commit) : Nat := z_IntS a.Parents + z_NameS a.Names
def n_Commit (a : T_impl_Commit) : Nat := n_IntS a.Parents + 1 + n_NameS a.Names
noncomputable def m_Commit (a : T_impl_Commit) (k : Int) : T_impl_Commit := ⟨m_IntS a.Parents (k), mT (k + (n_IntS a.Parents : Int)), m_NameS a.Names (k + (n_IntS a.Parents : Int) + 1)⟩
theorem eq_Commit {a : T_impl_Commit} (h : z_Commit a ≤ 1000000000) : laws_eqCommit a a = some true := by
  unfold z_Commit at h
  unfold laws_eqCommit
  simp only [eq_IntS (a := a.Parents) (by omega), eq_NameS (a := a.Names) (by omega), Option.bind_some, Bool.not_true, Bool.false_eq_true, if_false, bne_self_eq_false, BEq.rfl]
def z_CommitS (a : List T_impl_Commit) : Nat := a.length + sumOf z_Commit a
def n_CommitS (a : List T_impl_Commit) : Nat := sumOf n_Commit a
noncomputable def m_CommitS (a : List T_impl_Commit) (k : Int) : List T_impl_Commit := mkL n_Commit m_Commit a k
theorem eq_CommitS {a : List T_impl_Commit} (h : z_CommitS a ≤ 1000000000) : laws_eqCommitS a a = some true := by
  have hl : a.length ≤ 1000000000 := by unfold z_CommitS at h; omega
  unfold laws_eqCommitS
  rw [ifF (by simp)]
  have := eq_loop (body := fun s' => laws_eqCommitS_l1 a a s') (r := .inr ()) a.length (fun i hi => by
    have hw : z_Commit a[i] ≤ 1000000000 := by have := sumOf_mem (w := z_Commit) (List.getElem_mem hi); unfold z_CommitS at h; omega
    unfold laws_eqCommitS_l1
    rw [ifT (by simpa using hi), geti_nat, List.getElem?_eq_getElem hi, Option.bind_some, Option.bind_some]
    rw [eq_Commit hw, Option.bind_some]
    rw [ifF (by simp), wk64 (by omega) (by omega)]
    rfl) (by
    unfold laws_eqCommitS_l1
    rw [ifF (by simp)])
  rw [this]
  rfl
theorem mark_CommitS {a : List T_impl_Commit} {k : Int} (h1 : 1 ≤ k) (h2 : k + n_CommitS a ≤ 1000000000) (h3 : z_CommitS a ≤ 1000000000) : laws_markCommitS a k = some (k + n_CommitS a, m_CommitS a k) := by
  have hl : a.length ≤ 1000000000 := by unfold z_CommitS at h3; omega
  unfold laws_markCommitS
  have := mark_loop (body := fun (s' : Int × Int × (List T_impl_Commit)) => laws_markCommitS_l1 s'.1 s'.2.1 s'.2.2) n_Commit m_Commit a k 1000000000 h1 h2 (fun k i x l hi hx hl2 hk hB => by
    have hlt : i < l.length := (List.getElem?_eq_some_iff.1 hi).1
    have hz : z_Commit x ≤ 1000000000 := by have := sumOf_mem (w := z_Commit) hx; unfold z_CommitS at h3; omega
    unfold z_Commit at hz
    simp only [n_Commit, Int.natCast_add, Int.natCast_one, Int.cast_ofNat_Int] at hB
    show laws_markCommitS_l1 k i l = _
    unfold laws_markCommitS_l1
    rw [ifT (by simp; omega)]
    simp (disch := first | omega | (simp only; omega)) only [markText_eq, wk64, geti_nat, gset, hi, Option.bind_some, List.set_set, Int.toNat_natCast, mark_IntS, mark_NameS]
    refine inl3 ?_ (by omega) rfl
    simp only [n_Commit, Int.natCast_add, Int.natCast_one]; omega) (fun k l hl2 => by
    show laws_markCommitS_l1 k a.length l = _
    unfold laws_markCommitS_l1
    rw [ifF (by simp; omega)])
  rw [this]
  rfl
theorem zc_IntS (a : List Int) : z_IntS (c_IntS a) ≤ w_IntS a := by
  unfold z_IntS c_IntS w_IntS
  omega
theorem nc_IntS (a : List Int) : n_IntS (c_IntS a) ≤ 8 * w_IntS a := by
  unfold n_IntS c_IntS w_IntS
  rw [sumK1]
  omega
theorem zc_Name (a : T_laws_Name) : z_Name (c_Name a) ≤ w_Name a := by
  show 0 ≤ _
  unfold w_Name
  omega
theorem nc_Name (a : T_laws_Name) : n_Name (c_Name a) ≤ 8 * w_Name a + 8 := by
  show 1 + 1 + 1 ≤ _
  unfold w_Name
  omega
theorem cm_NameS (a : List T_laws_Name) : c_NameS a = a.map c_Name := rfl
theorem zc_NameS (a : List T_laws_Name) : z_NameS (c_NameS a) ≤ w_NameS a := by
  rw [cm_NameS]
  unfold z_NameS w_NameS
  have := sumOf_map (w := z_Name) (f := c_Name) (v := w_Name) a (fun x _ => zc_Name x)
  rw [List.length_map]
  omega
theorem nc_NameS (a : List T_laws_Name) : n_NameS (c_NameS a) ≤ 8 * w_NameS a := by
  rw [cm_NameS]
  unfold n_NameS w_NameS
  have := sumOf_map8 (w := n_Name) (f := c_Name) (v := w_Name) a (fun x _ => nc_Name x)
  omega
theorem zc_Commit (a : T_laws_Commit) : z_Commit (c_Commit a) ≤ w_Commit a := by
  have : z_IntS (a.Parents) ≤ w_IntS a.Parents := zc_IntS a.Parents
  have : z_NameS (c_NameS a.Names) ≤ w_NameS a.Names := zc_NameS a.Names
  show z_IntS (a.Parents) + z_NameS (c_NameS a.Names) ≤ _
  unfold w_Commit
  omega
theorem nc_Commit (a : T_laws_Commit) : n_Commit (c_Commit a) ≤ 8 * w_Commit a + 8 := by
  have : n_IntS (a.Parents) ≤ 8 * w_IntS a.Parents := nc_IntS a.Parents
  have : n_NameS (c_NameS a.Names) ≤ 8 * w_NameS a.Names := nc_NameS a.Names
  show n_IntS (a.Parents) + 1 + n_NameS (c_NameS a.Names) ≤ _
  unfold w_Commit
  omega
theorem cm_CommitS (a : List T_laws_Commit) : c_CommitS a = a.map c_Commit := rfl
theorem zc_CommitS (a : List T_laws_Commit) : z_CommitS (c_CommitS a) ≤ w_CommitS a := by
  rw [cm_CommitS]
  unfold z_CommitS w_CommitS
  have := sumOf_map (w := z_Commit) (f := c_Commit) (v := w_Commit) a (fun x _ => zc_Commit x)
  rw [List.length_map]
  omega
theorem nc_CommitS (a : List T_laws_Commit) : n_CommitS (c_CommitS a) ≤ 8 * w_CommitS a := by
  rw [cm_CommitS]
  unfold n_CommitS w_CommitS
  have := sumOf_map8 (w := n_Commit) (f := c_Commit) (v := w_Commit) a (fun x _ => nc_Commit x)
  omega
end Go.TV.F
/- Plain Lean: the law FnExactLogOf. -/
namespace Go.TV.F
open Go.TV
theorem smN_c {a : List T_laws_Name} (h : w_NameS a ≤ 1048576) : smN (c_NameS a) := fun n hn => by
  obtain ⟨x, hx, rfl⟩ := List.mem_map.1 hn
  have := sumOf_mem (w := w_Name) hx
  unfold w_NameS w_Name at *
  show x.Path.size ≤ _
  omega
theorem smC_c {a : List T_laws_Commit} (h : w_CommitS a ≤ 1048576) : ∀ c ∈ c_CommitS a, smC c := fun c hc => by
  obtain ⟨x, hx, rfl⟩ := List.mem_map.1 hc
  have hx := sumOf_mem (w := w_Commit) hx
  unfold w_CommitS at h
  have hw : w_IntS x.Parents + x.Note.size + w_NameS x.Names ≤ 1048576 := by
    have : w_Commit x = w_IntS x.Parents + x.Note.size + w_NameS x.Names := rfl
    omega
  exact ⟨by show x.Note.size ≤ _; omega, smN_c (by omega)⟩
theorem logOf_law {aList : List T_laws_Commit} {aVersions : List Int} {aC : Int} (h0 : sm_CommitS aList) : laws_FnExactLogOf aList aVersions aC = some true := by
  unfold laws_FnExactLogOf
  by_cases q : aVersions.length > 1048576
  · rw [ifT (decide_eq_true (by omega))]
  rw [ifF (decide_eq_false (by omega)), sz_CommitS (ok_of_CommitS h0) (by decide) (by decide), Option.bind_some]
  by_cases q2 : (w_CommitS aList : Int) ≤ 1048576
  · rw [if_pos q2, ifF (decide_eq_false (by omega))]
    have hz := zc_CommitS aList
    have hn := nc_CommitS aList
    have hto := to_CommitS (a := aList) (by omega)
    have hti : laws_toIntS aVersions = some (c_IntS aVersions) := to_IntS (by unfold w_IntS; omega)
    have hlen : (c_CommitS aList).length ≤ 2000000 := by
      have : (c_CommitS aList).length = aList.length := by unfold c_CommitS; simp
      unfold w_CommitS at q2
      omega
    have hS := logS_eq (vs := c_IntS aVersions) (c := aC) hlen (smC_c (a := aList) (by omega))
    have hI := logI_eq (vs := c_IntS aVersions) (c := aC) hlen (smC_c (a := aList) (by omega))
    have heC := eq_CommitS (a := c_CommitS aList) (by omega)
    have heI : laws_eqIntS (c_IntS aVersions) (c_IntS aVersions) = some true := eq_IntS (by unfold z_IntS c_IntS; omega)
    have hni : (n_IntS (c_IntS aVersions) : Int) ≤ 1048576 := by unfold n_IntS c_IntS; rw [sumK1]; omega
    have hmC := mark_CommitS (a := c_CommitS aList) (k := 1) (by omega) (by omega) (by omega)
    have hmI := mark_IntS (a := c_IntS aVersions) (k := 1 + n_CommitS (c_CommitS aList)) (by omega) (by omega) (by unfold z_IntS c_IntS; omega)
    generalize hr : logR (c_CommitS aList) (c_IntS aVersions) aC = r at hS hI
    have hrl : r.length ≤ 64 := by rw [← hr]; exact logR_len _ _ _
    have hnr : (n_IntS r : Int) ≤ 64 := by unfold n_IntS; rw [sumK1]; omega
    have heR : laws_eqIntS r r = some true := eq_IntS (by unfold z_IntS; omega)
    have hmR := mark_IntS (a := r) (k := 1) (by omega) (by omega) (by unfold z_IntS; omega)
    have hhR := held_IntS (a := r) (k := 1) (by omega) (by omega) (by unfold z_IntS; omega)
    have d1 : decide ((1 : Int) + n_CommitS (c_CommitS aList) + n_IntS (c_IntS aVersions) < 0) = false := decide_eq_false (by omega)
    have d2 : decide ((1 : Int) + n_IntS r < 0) = false := decide_eq_false (by omega)
    simp only [hto, hti, hS, hI, heC, heI, hmC, hmI, heR, hmR, hhR, d1, d2, Option.bind_some, Bool.not_true, Bool.false_eq_true, if_false, bne_self_eq_false]
  · rw [if_neg q2, ifT (decide_eq_true (by omega))]
end Go.TV.F
