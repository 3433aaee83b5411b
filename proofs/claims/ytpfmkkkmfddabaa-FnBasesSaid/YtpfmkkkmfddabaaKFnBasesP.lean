/- The plain laws. -/
import Derived.Test.YtpfmkkkmfddabaaKFnBasesT4
import Derived.Laws.BitsLemmas
import Derived.Test.YtpfmkkkmfddabaaKFnBasesD
set_option linter.unusedVariables false
set_option linter.unusedSimpArgs false
set_option maxHeartbeats 8000000
set_option maxRecDepth 100000
/- Plain Lean: loops and small steps. -/
namespace Go.TV.F
open Go.TV

theorem wk64 {x : Int} (h1 : -9223372036854775808 ≤ x) (h2 : x < 9223372036854775808) : wk .i64 x = x := by
  simp only [wk, IntKind.wrap, IntKind.bits, IntKind.signed, Bool.true_and, decide_eq_true_eq, Nat.reduceSub, Int.reducePow]
  split
  · rename_i h; simp at h; omega
  · rename_i h; simp at h; omega
theorem wku64 {x : Int} (h1 : 0 ≤ x) (h2 : x < 18446744073709551616) : wk .u64 x = x := by
  simp only [wk, IntKind.wrap, IntKind.bits, IntKind.signed, Bool.true_and, Bool.false_and, decide_eq_true_eq, Bool.false_eq_true, if_false, Nat.reduceSub, Int.reducePow]
  first | omega | (split <;> omega)
theorem wku32 {x : Int} (h1 : 0 ≤ x) (h2 : x < 4294967296) : wk .u32 x = x := by
  simp only [wk, IntKind.wrap, IntKind.bits, IntKind.signed, Bool.true_and, Bool.false_and, decide_eq_true_eq, Bool.false_eq_true, if_false, Nat.reduceSub, Int.reducePow]
  first | omega | (split <;> omega)
theorem wku8 {x : Int} (h1 : 0 ≤ x) (h2 : x < 256) : wk .u8 x = x := by
  simp only [wk, IntKind.wrap, IntKind.bits, IntKind.signed, Bool.true_and, Bool.false_and, decide_eq_true_eq, Bool.false_eq_true, if_false, Nat.reduceSub, Int.reducePow]
  first | omega | (split <;> omega)
theorem wku32_mod (x : Int) : wk .u32 x = x % 4294967296 := by
  simp only [wk, IntKind.wrap, IntKind.bits, IntKind.signed, Bool.false_and, Bool.false_eq_true, if_false, Int.reducePow]
theorem wku8_mod (x : Int) : wk .u8 x = x % 256 := by
  simp only [wk, IntKind.wrap, IntKind.bits, IntKind.signed, Bool.false_and, Bool.false_eq_true, if_false, Int.reducePow]
theorem wku64_mod (x : Int) : wk .u64 x = x % 18446744073709551616 := by
  simp only [wk, IntKind.wrap, IntKind.bits, IntKind.signed, Bool.false_and, Bool.false_eq_true, if_false, Int.reducePow]
theorem geti_nat {α : Type} (l : List α) (k : Nat) : geti l (k : Int) = l[k]? := by
  unfold geti
  rw [if_neg (by omega), Int.toNat_natCast]
theorem geti_in {α : Type} {l : List α} {i : Int} (h1 : 0 ≤ i) (h2 : i < l.length) : geti l i = some (l[i.toNat]'(by omega)) := by
  unfold geti
  rw [if_neg (by omega), List.getElem?_eq_getElem]
theorem mkl_in {α : Type} {n : Int} {z : α} (h1 : 0 ≤ n) (h2 : n ≤ 1099511627776) : mkl n n z = some (List.replicate n.toNat z) := by
  unfold mkl
  rw [if_pos ⟨h1, Int.le_refl _, h2⟩]
theorem appn_in {α : Type} {l m : List α} (h : l.length + m.length ≤ 549755813888) : appn l m = some (l ++ m) := by
  unfold appn
  rw [if_pos h]
theorem sapp_in {s t : ByteArray} (h : s.size + t.size ≤ 4611686018427387904) : sapp s t = some (s ++ t) := by
  unfold sapp
  rw [if_pos h]
theorem chk_in {p : Prop} [Decidable p] (h : p) : chk p = some () := by
  unfold chk
  rw [if_pos h]
/-- A loop that goes through known states. -/
theorem loopM_at {σ ρ : Type} {body : σ → Option (σ ⊕ ρ)} {r : ρ} (f : Nat → σ) (n : Nat) (hs : ∀ k, k < n → body (f k) = some (.inl (f (k + 1)))) (he : body (f n) = some (.inr r)) : loopM body (f 0) = some r := by
  have key : ∀ m k, k + m = n → loopM body (f k) = some r := by
    intro m
    induction m with
    | zero => intro k hk; rw [Nat.add_zero] at hk; subst hk; rw [loopM_eq, he]; rfl
    | succ m ih => intro k hk; rw [loopM_eq, hs k (by omega)]; exact ih (k + 1) (by omega)
  exact key n 0 (by omega)
/-- A loop that looks at all, and leaves at the first bad one. -/
theorem loopM_all {σ ρ : Type} {body : σ → Option (σ ⊕ ρ)} {good bad : ρ} (f : Nat → σ) (n : Nat) (p : Nat → Bool) (hs : ∀ k, k < n → (∀ j, j < k → p j = true) → p k = true → body (f k) = some (.inl (f (k + 1))))
    (hb : ∀ k, k < n → (∀ j, j < k → p j = true) → p k = false → body (f k) = some (.inr bad)) (he : (∀ j, j < n → p j = true) → body (f n) = some (.inr good)) : loopM body (f 0) = some (if (List.range n).all p = true then good else bad) := by
  have key : ∀ m k, k + m = n → (∀ j, j < k → p j = true) → loopM body (f k) = some (if (List.range n).all p = true then good else bad) := by
    intro m
    induction m with
    | zero =>
      intro k hk hp
      rw [Nat.add_zero] at hk
      subst hk
      rw [loopM_eq, he hp, if_pos (by simpa using hp)]
      rfl
    | succ m ih =>
      intro k hk hp
      rw [loopM_eq]
      cases q : p k with
      | true =>
        rw [hs k (by omega) hp q]
        refine ih (k + 1) (by omega) (fun j hj => ?_)
        rcases Nat.lt_succ_iff_lt_or_eq.1 hj with h | rfl
        · exact hp j h
        · exact q
      | false =>
        rw [hb k (by omega) hp q, if_neg]
        · rfl
        · intro hq
          have := List.all_eq_true.1 hq k (List.mem_range.2 (by omega))
          rw [q] at this
          cases this
  exact key n 0 (by omega) (fun j hj => by omega)
end Go.TV.F
/- Plain Lean: the loops of the laws' own helpers. -/
namespace Go.TV.F
open Go.TV

def sumOf {α : Type} (w : α → Nat) : List α → Nat
  | [] => 0
  | x :: l => w x + sumOf w l
theorem sumOf_mem {α : Type} {w : α → Nat} {l : List α} {x : α} (h : x ∈ l) : w x ≤ sumOf w l := by
  induction l with
  | nil => cases h
  | cons y l ih =>
    rcases List.mem_cons.1 h with rfl | h
    · simp [sumOf]
    · have := ih h
      simp [sumOf]
      omega
/-- A copy. -/
theorem to_loop {α β : Type} {body : Int × List β → Option ((Int × List β) ⊕ List β)} (a : List α) (f : α → β) (z : β) (hs : ∀ (i : Nat) (x : α) (out : List β), a[i]? = some x → out.length = a.length → body ((i : Int), out) = some (.inl (((i + 1 : Nat) : Int), out.set i (f x))))
    (he : ∀ out : List β, out.length = a.length → body ((a.length : Int), out) = some (.inr out)) : loopM body ((0 : Int), List.replicate a.length z) = some (a.map f) := by
  have key : ∀ (l pre : List α), a = pre ++ l → loopM body ((pre.length : Int), pre.map f ++ List.replicate l.length z) = some (a.map f) := by
    intro l
    induction l with
    | nil =>
      intro pre h
      rw [List.append_nil] at h
      subst h
      rw [loopM_eq, he _ (by simp)]
      simp
    | cons x l ih =>
      intro pre h
      rw [loopM_eq, hs pre.length x _ (by rw [h]; simp) (by rw [h]; simp)]
      have := ih (pre ++ [x]) (by rw [h]; simp)
      rw [List.length_append, List.map_append] at this
      have e : (List.map f pre ++ List.replicate (x :: l).length z).set pre.length (f x) = List.map f pre ++ List.map f [x] ++ List.replicate l.length z := by
        rw [List.set_append_right _ _ (by simp)]
        simp [List.replicate_succ]
      rw [e]
      exact this
  exact key a [] rfl
/-- Alike with itself. -/
theorem eq_loop {ρ : Type} {body : Int → Option (Int ⊕ ρ)} {r : ρ} (n : Nat) (hs : ∀ i : Nat, i < n → body (i : Int) = some (.inl ((i + 1 : Nat) : Int))) (he : body (n : Int) = some (.inr r)) : loopM body 0 = some r :=
  loopM_at (fun k => (k : Int)) n hs he
/-- What marks make of a list. -/
def mkL {α : Type} (c : α → Nat) (mk : α → Int → α) : List α → Int → List α
  | [], _ => []
  | x :: l, k => mk x k :: mkL c mk l (k + c x)
theorem mkL_len {α : Type} (c : α → Nat) (mk : α → Int → α) : ∀ (l : List α) (k : Int), (mkL c mk l k).length = l.length
  | [], _ => rfl
  | x :: l, k => by simp [mkL, mkL_len c mk l]
theorem mark_loop {α : Type} {body : Int × Int × List α → Option ((Int × Int × List α) ⊕ (Int × List α))} (c : α → Nat) (mk : α → Int → α) (a : List α) (k0 B : Int) (h1 : 1 ≤ k0) (hB : k0 + sumOf c a ≤ B)
    (hs : ∀ (k : Int) (i : Nat) (x : α) (l : List α), l[i]? = some x → x ∈ a → l.length = a.length → 1 ≤ k → k + c x ≤ B → body (k, (i : Int), l) = some (.inl (k + c x, ((i + 1 : Nat) : Int), l.set i (mk x k))))
    (he : ∀ (k : Int) (l : List α), l.length = a.length → body (k, (a.length : Int), l) = some (.inr (k, l))) : loopM body (k0, (0 : Int), a) = some (k0 + sumOf c a, mkL c mk a k0) := by
  have key : ∀ (l pre : List α) (k : Int), (∀ x ∈ l, x ∈ a) → pre.length + l.length = a.length → 1 ≤ k → k + sumOf c l ≤ B → loopM body (k, (pre.length : Int), pre ++ l) = some (k + sumOf c l, pre ++ mkL c mk l k) := by
    intro l
    induction l with
    | nil =>
      intro pre k _ hl h1 hB
      rw [loopM_eq, show (pre.length : Int) = (a.length : Int) by simp at hl; omega, he _ _ (by simpa using hl)]
      simp [sumOf, mkL]
    | cons x l ih =>
      intro pre k hm hl h1 hB
      simp only [sumOf] at hB
      rw [loopM_eq, hs k pre.length x _ (by simp) (hm x (by simp)) (by simpa using hl) h1 (by omega)]
      have := ih (pre ++ [mk x k]) (k + c x) (fun y hy => hm y (by simp [hy])) (by simp at hl ⊢; omega) (by omega) (by omega)
      have e : (pre ++ x :: l).set pre.length (mk x k) = pre ++ [mk x k] ++ l := by
        rw [List.set_append_right _ _ (by simp)]
        simp
      rw [e]
      rw [List.length_append] at this
      refine this.trans ?_
      simp only [sumOf, mkL, List.append_assoc, List.cons_append, List.nil_append, Option.some.injEq, Prod.mk.injEq, and_true]
      omega
  exact key a [] k0 (fun _ h => h) (by simp) h1 hB
theorem held_loop {α : Type} {ρ : Type} {body : Int × Int → Option ((Int × Int) ⊕ ρ)} {r : Int → ρ} (c : α → Nat) (mk : α → Int → α) (a : List α) (k0 B : Int) (h1 : 1 ≤ k0) (hB : k0 + sumOf c a ≤ B)
    (hs : ∀ (k : Int) (i : Nat) (x : α), (mkL c mk a k0)[i]? = some (mk x k) → i < a.length → x ∈ a → 1 ≤ k → k + c x ≤ B → body (k, (i : Int)) = some (.inl (k + c x, ((i + 1 : Nat) : Int))))
    (he : ∀ (k : Int), body (k, (a.length : Int)) = some (.inr (r k))) : loopM body (k0, (0 : Int)) = some (r (k0 + sumOf c a)) := by
  have key : ∀ (l : List α) (pre : List α) (k : Int), (∀ x ∈ l, x ∈ a) → mkL c mk a k0 = pre ++ mkL c mk l k → pre.length + l.length = a.length → 1 ≤ k → k + sumOf c l ≤ B → loopM body (k, (pre.length : Int)) = some (r (k + sumOf c l)) := by
    intro l
    induction l with
    | nil =>
      intro pre k _ _ hl h1 hB
      rw [loopM_eq, show (pre.length : Int) = (a.length : Int) by simp at hl; omega, he]
      simp [sumOf]
    | cons x l ih =>
      intro pre k hm hp hl h1 hB
      simp only [sumOf] at hB
      rw [loopM_eq, hs k pre.length x (by rw [hp]; simp [mkL]) (by simp at hl; omega) (hm x (by simp)) h1 (by omega)]
      have := ih (pre ++ [mk x k]) (k + c x) (fun y hy => hm y (by simp [hy])) (by rw [hp]; simp [mkL]) (by simp at hl ⊢; omega) (by omega) (by omega)
      rw [List.length_append] at this
      refine this.trans ?_
      simp only [sumOf, Option.some.injEq]
      congr 1
      omega
  exact key a [] k0 (fun _ h => h) rfl (by simp) h1 hB
/-- How much there is. -/
theorem sz_loop {α : Type} {body : Int × Int → Option ((Int × Int) ⊕ (Int ⊕ Int))} (w : α → Nat) (a : List α) (left : Int) (h0 : 0 ≤ left)
    (hs : ∀ (s : Int) (i : Nat) (x : α), a[i]? = some x → 0 ≤ s → s ≤ left → body (s, (i : Int)) = if (w x : Int) ≤ s then some (.inl (s - w x, ((i + 1 : Nat) : Int))) else some (.inr (.inl (-1))))
    (he : ∀ (s : Int), body (s, (a.length : Int)) = some (.inr (.inr s))) : loopM body (left, (0 : Int)) = some (if (sumOf w a : Int) ≤ left then .inr (left - sumOf w a) else .inl (-1)) := by
  have key : ∀ (l : List α) (pre : List α) (s : Int), a = pre ++ l → 0 ≤ s → s ≤ left → loopM body (s, (pre.length : Int)) = some (if (sumOf w l : Int) ≤ s then .inr (s - sumOf w l) else .inl (-1)) := by
    intro l
    induction l with
    | nil =>
      intro pre s h h1 h2
      rw [List.append_nil] at h
      rw [loopM_eq, ← h, he]
      simp [sumOf, h1]
    | cons x l ih =>
      intro pre s h h1 h2
      rw [loopM_eq, hs s pre.length x (by rw [h]; simp) h1 h2]
      have e : ((sumOf w (x :: l) : Nat) : Int) = w x + sumOf w l := by simp [sumOf]
      by_cases q : (w x : Int) ≤ s
      · rw [if_pos q]
        have := ih (pre ++ [x]) (s - w x) (by rw [h]; simp) (by omega) (by omega)
        rw [List.length_append] at this
        refine this.trans ?_
        by_cases q2 : (sumOf w l : Int) ≤ s - w x
        · rw [if_pos q2, if_pos (by omega)]
          congr 2
          omega
        · rw [if_neg q2, if_neg (by omega)]
      · rw [if_neg q]
        rw [if_neg (by omega)]
        rfl
  exact key a [] left rfl h0 (Int.le_refl _)
end Go.TV.F
/- Plain Lean: graphs of versions. -/
namespace Go.TV.F
open Go.TV

/-! ### Right graphs -/
def riseAt (l : List Int) (n : Int) (i : Nat) : Bool := decide (l.getD i 0 ≥ 0) && decide (l.getD i 0 ≤ n - 1) && (i == 0 || decide (l.getD (i - 1) 0 < l.getD i 0))
def rise (l : List Int) (n : Int) : Bool := (List.range l.length).all (riseAt l n)
def gAt (g : List (List Int)) (v : Nat) : Bool := decide ((g.getD v []).length ≤ 4) && rise (g.getD v []) v
def gOk (g : List (List Int)) : Bool := decide (g.length ≤ 40) && (List.range g.length).all (gAt g)
theorem gOk_len {g : List (List Int)} (h : gOk g = true) : g.length ≤ 40 := by
  simp only [gOk, Bool.and_eq_true, decide_eq_true_eq] at h
  exact h.1
theorem gOk_at {g : List (List Int)} (hg : gOk g = true) {v : Nat} (hv : v < g.length) : g[v].length ≤ 4 ∧ rise g[v] v = true := by
  simp only [gOk, Bool.and_eq_true] at hg
  have h1 := List.all_eq_true.1 hg.2 v (List.mem_range.2 hv)
  have : g.getD v [] = g[v] := by simp [hv]
  simp only [gAt, this, Bool.and_eq_true, decide_eq_true_eq] at h1
  exact h1
theorem rise_mem {l : List Int} {n : Int} (h : rise l n = true) {x : Int} (hx : x ∈ l) : 0 ≤ x ∧ x ≤ n - 1 := by
  obtain ⟨i, hi, rfl⟩ := List.getElem_of_mem hx
  have := List.all_eq_true.1 h i (List.mem_range.2 hi)
  have e : l.getD i 0 = l[i] := by simp [hi]
  simp only [riseAt, e, Bool.and_eq_true, decide_eq_true_eq] at this
  exact this.1
theorem gOk_mem {g : List (List Int)} (hg : gOk g = true) {v : Nat} (hv : v < g.length) {x : Int} (hx : x ∈ g[v]) : 0 ≤ x ∧ x < v := by
  have := rise_mem (gOk_at hg hv).2 hx
  omega

/-! ### Sets as bits -/
def orL (c : List Nat) (l : List Int) : Nat := l.foldl (fun (s : Nat) (x : Int) => s ||| c.getD x.toNat 0) 0
theorem orL_snoc (c : List Nat) (l : List Int) (x : Int) : orL c (l ++ [x]) = orL c l ||| c.getD x.toNat 0 := by
  unfold orL
  rw [List.foldl_append]
  rfl
theorem orL_take {c : List Nat} {l : List Int} {i : Nat} (hi : i < l.length) : orL c (l.take (i + 1)) = orL c (l.take i) ||| c.getD l[i].toNat 0 := by
  rw [List.take_succ_eq_append_getElem hi, orL_snoc]
theorem getD_lt {c : List Nat} (hc : ∀ x ∈ c, x < 2 ^ 64) (i : Nat) : c.getD i 0 < 2 ^ 64 := by
  rw [List.getD_eq_getElem?_getD]
  rcases q : c[i]? with _ | x
  · decide
  · exact hc x (List.mem_of_getElem? q)
theorem orL_lt {c : List Nat} (hc : ∀ x ∈ c, x < 2 ^ 64) (l : List Int) : orL c l < 2 ^ 64 := by
  unfold orL
  suffices h : ∀ (l : List Int) (s : Nat), s < 2 ^ 64 → l.foldl (fun (s : Nat) (x : Int) => s ||| c.getD x.toNat 0) s < 2 ^ 64 from h l 0 (by decide)
  intro l
  induction l with
  | nil => intro s hs; exact hs
  | cons x l ih => intro s hs; exact ih _ (Nat.or_lt_two_pow hs (getD_lt hc _))
theorem orL_test (c : List Nat) (l : List Int) (u : Nat) : (orL c l).testBit u = l.any fun x => (c.getD x.toNat 0).testBit u := by
  unfold orL
  suffices h : ∀ (l : List Int) (s : Nat), (l.foldl (fun (s : Nat) (x : Int) => s ||| c.getD x.toNat 0) s).testBit u = (s.testBit u || l.any fun x => (c.getD x.toNat 0).testBit u) by
    rw [h]; simp
  intro l
  induction l with
  | nil => intro s; simp
  | cons x l ih => intro s; rw [List.foldl_cons, ih, Nat.testBit_or, List.any_cons, Bool.or_assoc]
theorem wrapu {n : Int} (h0 : 0 ≤ n) (h1 : n < 2 ^ 64) : IntKind.wrap .u64 n = n := wku64 h0 (by omega)
theorem or_u64 {a b : Nat} (ha : a < 2 ^ 64) (hb : b < 2 ^ 64) : bits .or .u64 a b = ((a ||| b : Nat) : Int) := (bits_nat .u64 64 (by decide) (fun n h0 h1 => wrapu h0 h1) a b ha hb).2
theorem and_u64 {a b : Nat} (ha : a < 2 ^ 64) (hb : b < 2 ^ 64) : bits .and .u64 a b = ((a &&& b : Nat) : Int) := (bits_nat .u64 64 (by decide) (fun n h0 h1 => wrapu h0 h1) a b ha hb).1
theorem shl_one {n : Nat} (hn : n < 64) : shlI .u64 1 (n : Int) = ((2 ^ n : Nat) : Int) := by
  have h : (2 ^ n : Nat) < 2 ^ 64 := Nat.pow_lt_pow_right (by decide) hn
  unfold shlI
  rw [Int.toNat_natCast, show min n IntKind.u64.bits = n by simp [IntKind.bits]; omega, Int.one_mul]
  have e : ((2 : Int) ^ n) = ((2 ^ n : Nat) : Int) := by simp
  rw [e]
  exact wku64 (Int.natCast_nonneg _) (Int.ofNat_lt.2 (show 2 ^ n < 18446744073709551616 from h))
theorem shr_test (s n : Nat) (hs : s < 2 ^ 64) (hn : n < 64) : ((bits .and .u64 (shrI .u64 (s : Int) (n : Int)) 1) == 1) = s.testBit n := by
  have e1 : shrI .u64 (s : Int) (n : Int) = ((s / 2 ^ n : Nat) : Int) := by
    unfold shrI
    rw [Int.toNat_natCast, show min n IntKind.u64.bits = n by simp [IntKind.bits]; omega]
    simp
  have e2 := and_u64 (a := s / 2 ^ n) (b := 1) (Nat.lt_of_le_of_lt (Nat.div_le_self _ _) hs) (by decide)
  rw [e1, show ((1 : Int)) = ((1 : Nat) : Int) from rfl, e2, Nat.testBit_eq_decide_div_mod_eq, Nat.and_one_is_mod]
  rcases Nat.mod_two_eq_zero_or_one (s / 2 ^ n) with q | q <;> rw [q] <;> rfl
def bitsL (s n : Nat) : List Nat := (List.range n).filter fun v => s.testBit v
theorem bitsL_succ (s n : Nat) : bitsL s (n + 1) = if s.testBit n = true then bitsL s n ++ [n] else bitsL s n := by
  simp only [bitsL, List.range_succ, List.filter_append]
  cases q : s.testBit n <;> simp [q]
theorem bitsL_len (s n : Nat) : (bitsL s n).length ≤ n := by
  have := List.length_filter_le (fun v => s.testBit v) (List.range n)
  simpa [bitsL] using this
def ints (l : List Nat) : List Int := l.map fun (n : Nat) => (n : Int)

/-! ### Closures -/
def closN (g : List (List Int)) : Nat → List Nat
  | 0 => List.replicate g.length 0
  | n + 1 => (closN g n).set n (orL (closN g n) (g.getD n []) ||| 2 ^ n)
theorem closN_len (g : List (List Int)) : ∀ n, (closN g n).length = g.length
  | 0 => by simp [closN]
  | n + 1 => by rw [closN, List.length_set, closN_len]
theorem closN_lt {g : List (List Int)} (hg : g.length ≤ 40) : ∀ n, n ≤ g.length → ∀ x ∈ closN g n, x < 2 ^ 64
  | 0, _, x, hx => by
    have := List.eq_of_mem_replicate hx
    subst this
    decide
  | n + 1, hn, x, hx => by
    rcases List.mem_or_eq_of_mem_set hx with q | q
    · exact closN_lt hg n (by omega) x q
    · rw [q]
      exact Nat.or_lt_two_pow (orL_lt (closN_lt hg n (by omega)) _) (Nat.pow_lt_pow_right (by decide) (by omega))
theorem closN_old (g : List (List Int)) : ∀ (n k i : Nat), i < n → (closN g (n + k)).getD i 0 = (closN g n).getD i 0
  | _, 0, _, _ => rfl
  | n, k + 1, i, hi => by
    rw [← Nat.add_assoc, closN, List.getD_eq_getElem?_getD, List.getElem?_set_ne (by omega), ← List.getD_eq_getElem?_getD]
    exact closN_old g n k i hi
/-- The closure of a version, as bits. -/
def clo (g : List (List Int)) (v : Nat) : Nat := (closN g g.length).getD v 0
theorem closN_clo {g : List (List Int)} {n i : Nat} (hn : n ≤ g.length) (hi : i < n) : (closN g n).getD i 0 = clo g i := by
  have := closN_old g n (g.length - n) i hi
  rw [show n + (g.length - n) = g.length by omega] at this
  exact this.symm
theorem clo_lt {g : List (List Int)} (hg : gOk g = true) (v : Nat) : clo g v < 2 ^ 64 := getD_lt (closN_lt (gOk_len hg) _ (Nat.le_refl _)) v
theorem clo_test {g : List (List Int)} (hg : gOk g = true) {v : Nat} (hv : v < g.length) (u : Nat) : (clo g v).testBit u = (decide (u = v) || g[v].any fun p => (clo g p.toNat).testBit u) := by
  have e : g.getD v [] = g[v] := by simp [hv]
  have h1 : clo g v = orL (closN g v) g[v] ||| 2 ^ v := by
    rw [← closN_clo (n := v + 1) (by omega) (by omega), closN, List.getD_eq_getElem?_getD, List.getElem?_set_self (by rw [closN_len]; omega), e]
    rfl
  have h2 : (orL (closN g v) g[v]).testBit u = g[v].any fun p => (clo g p.toNat).testBit u := by
    rw [orL_test, Bool.eq_iff_iff, List.any_eq_true, List.any_eq_true]
    constructor
    · rintro ⟨x, hx, h⟩
      have := gOk_mem hg hv hx
      exact ⟨x, hx, by rw [← closN_clo (n := v) (by omega) (by omega)]; exact h⟩
    · rintro ⟨x, hx, h⟩
      have := gOk_mem hg hv hx
      exact ⟨x, hx, by rw [closN_clo (by omega) (by omega)]; exact h⟩
  rw [h1, Nat.testBit_or, h2, Nat.testBit_two_pow, Bool.or_comm]
  congr 1
  simp only [decide_eq_decide]
  omega
theorem clo_self {g : List (List Int)} (hg : gOk g = true) {v : Nat} (hv : v < g.length) : (clo g v).testBit v = true := by
  rw [clo_test hg hv]
  simp
theorem clo_le {g : List (List Int)} (hg : gOk g = true) : ∀ {v : Nat}, v < g.length → ∀ {u : Nat}, (clo g v).testBit u = true → u ≤ v := by
  intro v
  induction v using Nat.strongRecOn with
  | _ v ih =>
    intro hv u h
    rw [clo_test hg hv] at h
    simp only [Bool.or_eq_true, decide_eq_true_eq, List.any_eq_true] at h
    rcases h with h | ⟨p, hp, h⟩
    · omega
    · have := gOk_mem hg hv hp
      have := ih p.toNat (by omega) (by omega) h
      omega

/-! ### The reference's way -/
def mark (b : List Bool) (l : List Int) : List Bool := l.foldl (fun (b : List Bool) (x : Int) => if 0 ≤ x ∧ x < b.length then b.set x.toNat true else b) b
def step (g : List (List Int)) (b : List Bool) (v : Nat) : List Bool := if b.getD v false = true then mark b (g.getD v []) else b
def down (g : List (List Int)) : Nat → List Bool → List Bool
  | 0, b => b
  | n + 1, b => down g n (step g b n)
def setL (g : List (List Int)) (l : List Int) : List Bool := down g g.length (mark (List.replicate g.length false) l)
theorem mark_snoc (b : List Bool) (l : List Int) (x : Int) : mark b (l ++ [x]) = if 0 ≤ x ∧ x < (mark b l).length then (mark b l).set x.toNat true else mark b l := by
  unfold mark
  rw [List.foldl_append]
  rfl
theorem mark_len (b : List Bool) (l : List Int) : (mark b l).length = b.length := by
  unfold mark
  induction l generalizing b with
  | nil => rfl
  | cons x l ih =>
    rw [List.foldl_cons, ih]
    split <;> simp
theorem mark_take {b : List Bool} {l : List Int} {i : Nat} (hi : i < l.length) : mark b (l.take (i + 1)) = if 0 ≤ l[i] ∧ l[i] < b.length then (mark b (l.take i)).set l[i].toNat true else mark b (l.take i) := by
  rw [List.take_succ_eq_append_getElem hi, mark_snoc, mark_len]
theorem mark_get (b : List Bool) (l : List Int) (u : Nat) : (mark b l).getD u false = (b.getD u false || (decide (u < b.length) && l.any fun x => x == (u : Int))) := by
  unfold mark
  induction l generalizing b with
  | nil => simp
  | cons x l ih =>
    rw [List.foldl_cons, ih, List.any_cons]
    split
    · rename_i hx
      simp only [List.length_set, List.getD_eq_getElem?_getD, List.getElem?_set]
      by_cases e : x.toNat = u
      · have e' : (x == (u : Int)) = true := by simp; omega
        rw [if_pos e, if_pos (by omega), e']
        simp
        right
        omega
      · have e' : (x == (u : Int)) = false := by simp; omega
        rw [if_neg e, e', Bool.false_or]
    · rename_i hx
      by_cases e : x = (u : Int)
      · have : ¬ u < b.length := by omega
        simp [this]
      · have e' : (x == (u : Int)) = false := by simp; exact e
        rw [e', Bool.false_or]
theorem down_len (g : List (List Int)) : ∀ (n : Nat) (b : List Bool), (down g n b).length = b.length
  | 0, _ => rfl
  | n + 1, b => by
    rw [down, down_len, step]
    split
    · exact mark_len _ _
    · rfl
theorem setL_len (g : List (List Int)) (l : List Int) : (setL g l).length = g.length := by rw [setL, down_len, mark_len]; simp
theorem down_get {g : List (List Int)} (hg : gOk g = true) : ∀ (m : Nat) (b : List Bool), m ≤ g.length → b.length = g.length → ∀ u, (down g m b).getD u false = true ↔ ∃ w, b.getD w false = true ∧ ((w < m ∧ (clo g w).testBit u = true) ∨ u = w)
  | 0, b, _, _, u => by
    rw [down]
    exact ⟨fun h => ⟨u, h, .inr rfl⟩, fun ⟨w, h1, h2⟩ => by
      rcases h2 with ⟨h2, _⟩ | h2
      · omega
      · rw [h2]; exact h1⟩
  | m + 1, b, hm, hb, u => by
    have hl : (step g b m).length = g.length := by
      rw [step]
      split
      · rw [mark_len]; exact hb
      · exact hb
    rw [down, down_get hg m _ (by omega) hl u]
    have e : g.getD m [] = g[m] := by simp [show m < g.length by omega]
    by_cases q : b.getD m false = true
    · rw [step, if_pos q, e]
      constructor
      · rintro ⟨w, h1, h2⟩
        rw [mark_get] at h1
        simp only [Bool.or_eq_true, Bool.and_eq_true, decide_eq_true_eq, List.any_eq_true] at h1
        rcases h1 with h1 | ⟨_, x, hx, h1⟩
        · refine ⟨w, h1, ?_⟩
          rcases h2 with ⟨h2, h3⟩ | h2
          · exact .inl ⟨by omega, h3⟩
          · exact .inr h2
        · have hx' := gOk_mem hg (v := m) (by omega) hx
          have h1 : x = (w : Int) := by simpa using h1
          subst h1
          refine ⟨m, q, .inl ⟨by omega, ?_⟩⟩
          rw [clo_test hg (by omega)]
          simp only [Bool.or_eq_true, List.any_eq_true]
          refine .inr ⟨(w : Int), hx, ?_⟩
          rw [Int.toNat_natCast]
          rcases h2 with ⟨_, h2⟩ | h2
          · exact h2
          · rw [h2]
            exact clo_self hg (by omega)
      · rintro ⟨w, h1, h2⟩
        by_cases hw : w = m
        · subst hw
          rcases h2 with ⟨_, h2⟩ | h2
          · rw [clo_test hg (by omega)] at h2
            simp only [Bool.or_eq_true, decide_eq_true_eq, List.any_eq_true] at h2
            rcases h2 with h2 | ⟨p, hp, h2⟩
            · exact ⟨w, by rw [mark_get, h1]; rfl, .inr h2⟩
            · have hp' := gOk_mem hg (v := w) (by omega) hp
              refine ⟨p.toNat, ?_, .inl ⟨by omega, h2⟩⟩
              rw [mark_get]
              simp only [Bool.or_eq_true, Bool.and_eq_true, decide_eq_true_eq, List.any_eq_true]
              exact .inr ⟨by omega, p, hp, by simp; omega⟩
          · exact ⟨w, by rw [mark_get, h1]; rfl, .inr h2⟩
        · refine ⟨w, by rw [mark_get, h1]; rfl, ?_⟩
          rcases h2 with ⟨h2, h3⟩ | h2
          · exact .inl ⟨by omega, h3⟩
          · exact .inr h2
    · rw [step, if_neg q]
      constructor
      · rintro ⟨w, h1, h2⟩
        refine ⟨w, h1, ?_⟩
        rcases h2 with ⟨h2, h3⟩ | h2
        · exact .inl ⟨by omega, h3⟩
        · exact .inr h2
      · rintro ⟨w, h1, h2⟩
        have hw : w ≠ m := fun e => q (e ▸ h1)
        refine ⟨w, h1, ?_⟩
        rcases h2 with ⟨h2, h3⟩ | h2
        · exact .inl ⟨by omega, h3⟩
        · exact .inr h2
theorem setL_get {g : List (List Int)} (hg : gOk g = true) (l : List Int) (u : Nat) : (setL g l).getD u false = true ↔ ∃ x ∈ l, 0 ≤ x ∧ x < g.length ∧ (clo g x.toNat).testBit u = true := by
  rw [setL, down_get hg _ _ (Nat.le_refl _) (by rw [mark_len]; simp)]
  constructor
  · rintro ⟨w, h1, h2⟩
    rw [mark_get] at h1
    simp only [List.length_replicate, Bool.or_eq_true, Bool.and_eq_true, decide_eq_true_eq, List.any_eq_true] at h1
    rcases h1 with h1 | ⟨h0, x, hx, h1⟩
    · rw [List.getD_eq_getElem?_getD, List.getElem?_replicate] at h1
      split at h1 <;> cases h1
    · have h1 : x = (w : Int) := by simpa using h1
      subst h1
      refine ⟨(w : Int), hx, by omega, by omega, ?_⟩
      rw [Int.toNat_natCast]
      rcases h2 with ⟨_, h2⟩ | h2
      · exact h2
      · rw [h2]; exact clo_self hg h0
  · rintro ⟨x, hx, h0, h1, h2⟩
    refine ⟨x.toNat, ?_, .inl ⟨by omega, h2⟩⟩
    rw [mark_get]
    simp only [List.length_replicate, Bool.or_eq_true, Bool.and_eq_true, decide_eq_true_eq, List.any_eq_true]
    exact .inr ⟨by omega, x, hx, by simp; omega⟩
def trues (bs : List Bool) (n : Nat) : List Nat := (List.range n).filter fun v => bs.getD v false
theorem trues_len (bs : List Bool) (v : Nat) : (trues bs v).length ≤ v := by
  have := List.length_filter_le (fun v => bs.getD v false) (List.range v)
  simpa [trues] using this
theorem trues_succ (bs : List Bool) (v : Nat) : trues bs (v + 1) = if bs.getD v false = true then trues bs v ++ [v] else trues bs v := by
  simp only [trues, List.range_succ, List.filter_append]
  cases q : bs.getD v false <;> simp [q, -List.getD_eq_getElem?_getD]
/-- Both tell the same list. -/
theorem setL_bits {g : List (List Int)} (hg : gOk g = true) (l : List Int) (hl : ∀ x ∈ l, 0 ≤ x ∧ x < (g.length : Int)) : trues (setL g l) g.length = bitsL (orL (closN g g.length) l) 64 := by
  have hlen := gOk_len hg
  unfold trues bitsL
  have e : (List.range 64) = List.range g.length ++ (List.range (64 - g.length)).map (g.length + ·) := by
    rw [← List.range_add]
    congr 1
    omega
  rw [e, List.filter_append]
  have h2 : ((List.range (64 - g.length)).map (g.length + ·)).filter (fun v => (orL (closN g g.length) l).testBit v) = [] := by
    rw [List.filter_eq_nil_iff]
    intro v hv
    obtain ⟨k, _, rfl⟩ := List.mem_map.1 hv
    intro q
    rw [orL_test, List.any_eq_true] at q
    obtain ⟨x, hx, q⟩ := q
    have := hl x hx
    have := clo_le hg (v := x.toNat) (by omega) q
    omega
  rw [h2, List.append_nil]
  apply List.filter_congr
  intro v _
  rw [Bool.eq_iff_iff, setL_get hg, orL_test, List.any_eq_true]
  constructor
  · rintro ⟨x, hx, _, _, h⟩
    exact ⟨x, hx, h⟩
  · rintro ⟨x, hx, h⟩
    have := hl x hx
    exact ⟨x, hx, this.1, this.2, h⟩
end Go.TV.F
/- Plain Lean: the functions over graphs, and what they come to. -/
namespace Go.TV.F
open Go.TV

theorem inRange_eq (n a b : Int) : impl_inRange n a b = some (decide (a ≤ n) && decide (n ≤ b)) := by
  unfold impl_inRange
  by_cases h : a ≤ n <;> simp [h]
theorem l01In_eq (n a b : Int) : spec_l01In n a b = some (decide (a ≤ n) && decide (n ≤ b)) := by
  unfold spec_l01In
  by_cases h : a ≤ n <;> simp [h]
theorem isPlace_eq {n m : Int} (h0 : 0 ≤ m) (h1 : m ≤ 1000000000) : impl_isPlace n m = some (decide (0 ≤ n) && decide (n < m)) := by
  unfold impl_isPlace
  rw [wk64 (by omega) (by omega), inRange_eq]
  have : decide (n ≤ m - 1) = decide (n < m) := by simp only [decide_eq_decide]; omega
  rw [this]
  rfl
theorem riseAt_nat {l : List Int} {n : Int} {i : Nat} (hi : i < l.length) : riseAt l n i = (decide (0 ≤ l[i]) && decide (l[i] ≤ n - 1) && (i == 0 || decide (l.getD (i - 1) 0 < l[i]))) := by
  have e : l.getD i 0 = l[i] := by simp [hi]
  simp only [riseAt, e]
theorem ascends_eq {l : List Int} {n : Int} (hl : l.length ≤ 1000000) (hn : 0 ≤ n) (hn2 : n ≤ 1000000000) : impl_ascends l n = some (rise l n) := by
  unfold impl_ascends
  have hb : ∀ k : Nat, k < l.length → impl_ascends_l1 l n k = some (if riseAt l n k = true then .inl ((k + 1 : Nat) : Int) else .inr (.inl false)) := by
    intro k hk
    unfold impl_ascends_l1
    rw [ifT (by simpa using hk), geti_nat, List.getElem?_eq_getElem hk, Option.bind_some, wk64 (x := n - 1) (by omega) (by omega), inRange_eq, Option.bind_some, riseAt_nat hk]
    cases h1 : (decide (0 ≤ l[k]) && decide (l[k] ≤ n - 1)) with
    | false => simp
    | true =>
      rcases Nat.eq_zero_or_pos k with rfl | hp
      · simp [wk64]
      · obtain ⟨j, rfl⟩ : ∃ j, k = j + 1 := ⟨k - 1, by omega⟩
        rw [wk64 (x := ((j + 1 : Nat) : Int) - 1) (by omega) (by omega), show ((j + 1 : Nat) : Int) - 1 = (j : Int) by omega, geti_nat, List.getElem?_eq_getElem (by omega)]
        rw [wk64 (by omega) (by omega)]
        have e : l.getD (j + 1 - 1) 0 = l[j] := by simp [show j < l.length by omega]
        rw [e]
        by_cases q : l[j] < l[j + 1]
        · simp [q, show ¬ l[j + 1] ≤ l[j] by omega]
        · simp [q, show l[j + 1] ≤ l[j] by omega]
  have := loopM_all (body := fun s' => impl_ascends_l1 l n s') (good := .inr ()) (bad := .inl false) (fun k => (k : Int)) l.length (riseAt l n) (fun k hk _ hp => by show impl_ascends_l1 l n k = _; rw [hb k hk, if_pos hp]) (fun k hk _ hp => by show impl_ascends_l1 l n k = _; rw [hb k hk, hp]; rfl) (fun _ => by
    show impl_ascends_l1 l n l.length = _
    unfold impl_ascends_l1
    rw [ifF (by simp)])
  rw [show (0 : Int) = ((0 : Nat) : Int) from rfl, this, Option.bind_some]
  unfold rise
  cases (List.range l.length).all (riseAt l n) <;> rfl
theorem l05Rise_eq {l : List Int} {n : Int} (hl : l.length ≤ 1000000) (hn : 0 ≤ n) (hn2 : n ≤ 1000000000) : spec_l05Rise l n = some (rise l n) := by
  unfold spec_l05Rise
  have hb : ∀ k : Nat, k < l.length → spec_l05Rise_l1 l n k = some (if riseAt l n k = true then .inl ((k + 1 : Nat) : Int) else .inr (.inl false)) := by
    intro k hk
    unfold spec_l05Rise_l1
    rw [ifT (by simpa using hk), geti_nat, List.getElem?_eq_getElem hk, Option.bind_some, wk64 (x := n - 1) (by omega) (by omega), l01In_eq, Option.bind_some, riseAt_nat hk]
    cases h1 : (decide (0 ≤ l[k]) && decide (l[k] ≤ n - 1)) with
    | false => simp
    | true =>
      rcases Nat.eq_zero_or_pos k with rfl | hp
      · simp [wk64]
      · obtain ⟨j, rfl⟩ : ∃ j, k = j + 1 := ⟨k - 1, by omega⟩
        rw [wk64 (x := ((j + 1 : Nat) : Int) - 1) (by omega) (by omega), show ((j + 1 : Nat) : Int) - 1 = (j : Int) by omega, geti_nat, List.getElem?_eq_getElem (by omega)]
        rw [wk64 (by omega) (by omega)]
        have e : l.getD (j + 1 - 1) 0 = l[j] := by simp [show j < l.length by omega]
        rw [e]
        by_cases q : l[j] < l[j + 1]
        · simp [q, show ¬ l[j + 1] ≤ l[j] by omega]
        · simp [q, show l[j + 1] ≤ l[j] by omega]
  have := loopM_all (body := fun s' => spec_l05Rise_l1 l n s') (good := .inr ()) (bad := .inl false) (fun k => (k : Int)) l.length (riseAt l n) (fun k hk _ hp => by show spec_l05Rise_l1 l n k = _; rw [hb k hk, if_pos hp]) (fun k hk _ hp => by show spec_l05Rise_l1 l n k = _; rw [hb k hk, hp]; rfl) (fun _ => by
    show spec_l05Rise_l1 l n l.length = _
    unfold spec_l05Rise_l1
    rw [ifF (by simp)])
  rw [show (0 : Int) = ((0 : Nat) : Int) from rfl, this, Option.bind_some]
  unfold rise
  cases (List.range l.length).all (riseAt l n) <;> rfl
theorem gAt_nat {g : List (List Int)} {v : Nat} (hv : v < g.length) : gAt g v = (decide (g[v].length ≤ 4) && rise g[v] v) := by
  have : g.getD v [] = g[v] := by simp [hv]
  unfold gAt
  rw [this]
theorem graphOkI_eq {g : List (List Int)} (hl : g.length ≤ 10000000) : impl_GraphOk g = some (gOk g) := by
  unfold impl_GraphOk
  have hb : ∀ k : Nat, k < g.length → impl_GraphOk_l1 g k = some (if gAt g k = true then .inl ((k + 1 : Nat) : Int) else .inr (.inl false)) := by
    intro k hk
    unfold impl_GraphOk_l1
    rw [ifT (by simpa using hk), geti_nat, List.getElem?_eq_getElem hk, Option.bind_some, gAt_nat hk]
    by_cases h4 : g[k].length ≤ 4
    · rw [ascends_eq (by omega) (by omega) (by omega), wk64 (by omega) (by omega)]
      cases q : rise g[k] k <;> simp [h4, show ¬ (4 : Int) < (g[k].length : Int) by omega]
    · simp [h4, show (4 : Int) < (g[k].length : Int) by omega]
  have := loopM_all (body := fun s' => impl_GraphOk_l1 g s') (good := .inr ()) (bad := .inl false) (fun k => (k : Int)) g.length (gAt g) (fun k hk _ hp => by show impl_GraphOk_l1 g k = _; rw [hb k hk, if_pos hp]) (fun k hk _ hp => by show impl_GraphOk_l1 g k = _; rw [hb k hk, hp]; rfl) (fun _ => by
    show impl_GraphOk_l1 g g.length = _
    unfold impl_GraphOk_l1
    rw [ifF (by simp)])
  rw [show (0 : Int) = ((0 : Nat) : Int) from rfl, this, Option.bind_some]
  unfold gOk
  cases (List.range g.length).all (gAt g)
  · simp
  · simp [impl_GraphOk_j1, show (g.length : Int) ≤ 40 ↔ g.length ≤ 40 by omega]
theorem graphOkS_eq {g : List (List Int)} (hl : g.length ≤ 10000000) : spec_GraphOk g = some (gOk g) := by
  unfold spec_GraphOk
  by_cases h40 : g.length ≤ 40
  · rw [ifF (by simp; omega)]
    have hb : ∀ k : Nat, k < g.length → spec_GraphOk_l1 g k = some (if gAt g k = true then .inl ((k + 1 : Nat) : Int) else .inr (.inl false)) := by
      intro k hk
      unfold spec_GraphOk_l1
      rw [ifT (by simpa using hk), geti_nat, List.getElem?_eq_getElem hk, Option.bind_some, gAt_nat hk]
      by_cases h4 : g[k].length ≤ 4
      · rw [l05Rise_eq (by omega) (by omega) (by omega), wk64 (by omega) (by omega)]
        cases q : rise g[k] k <;> simp [h4, show ¬ (4 : Int) < (g[k].length : Int) by omega]
      · simp [h4, show (4 : Int) < (g[k].length : Int) by omega]
    have := loopM_all (body := fun s' => spec_GraphOk_l1 g s') (good := .inr ()) (bad := .inl false) (fun k => (k : Int)) g.length (gAt g) (fun k hk _ hp => by show spec_GraphOk_l1 g k = _; rw [hb k hk, if_pos hp]) (fun k hk _ hp => by show spec_GraphOk_l1 g k = _; rw [hb k hk, hp]; rfl) (fun _ => by
      show spec_GraphOk_l1 g g.length = _
      unfold spec_GraphOk_l1
      rw [ifF (by simp)])
    rw [show (0 : Int) = ((0 : Nat) : Int) from rfl, this, Option.bind_some]
    unfold gOk
    cases (List.range g.length).all (gAt g) <;> simp [h40, spec_GraphOk_j1]
  · rw [ifT (by simp; omega)]
    simp [gOk, h40]
/-- Sets, as the program holds them. -/
abbrev us (c : List Nat) : List Int := c.map fun (s : Nat) => (s : Int)
theorem unionOf_eq {c : List Nat} {l : List Int} (hc : ∀ x ∈ c, x < 2 ^ 64) (hl : ∀ x ∈ l, 0 ≤ x ∧ x < (c.length : Int)) (hll : l.length ≤ 1000000000) : impl_unionOf (us c) l = some ((orL c l : Nat) : Int) := by
  unfold impl_unionOf
  have := loopM_at (body := fun (s' : Int × Int) => impl_unionOf_l1 (us c) l s'.1 s'.2) (r := ((orL c l : Nat) : Int)) (fun k => (((orL c (l.take k) : Nat) : Int), (k : Int))) l.length (fun k hk => by
    show impl_unionOf_l1 (us c) l ((orL c (l.take k) : Nat) : Int) k = _
    unfold impl_unionOf_l1
    have hk2 := hl _ (List.getElem_mem hk)
    have e : c.getD l[k].toNat 0 = c[l[k].toNat]'(by omega) := by simp [show l[k].toNat < c.length by omega]
    rw [ifT (by simpa using hk), geti_nat, List.getElem?_eq_getElem hk, Option.bind_some, geti_in hk2.1 (by simp; omega), Option.bind_some, wk64 (by omega) (by omega), List.getElem_map,
      or_u64 (orL_lt hc _) (hc _ (List.getElem_mem _)), orL_take hk, e]
    rfl) (by
    show impl_unionOf_l1 (us c) l ((orL c (l.take l.length) : Nat) : Int) l.length = _
    unfold impl_unionOf_l1
    rw [ifF (by simp), List.take_length])
  have e0 : ((0 : Int), (0 : Int)) = (((orL c (l.take 0) : Nat) : Int), ((0 : Nat) : Int)) := rfl
  rw [e0, this]
  rfl
theorem closures_eq {g : List (List Int)} (hg : gOk g = true) : impl_closures g = some (us (closN g g.length)) := by
  have h40 := gOk_len hg
  unfold impl_closures
  rw [mkl_in (by omega) (by omega), Option.bind_some, Int.toNat_natCast]
  have := loopM_at (body := fun (s' : Int × (List Int)) => impl_closures_l1 g s'.1 s'.2) (r := us (closN g g.length)) (fun k => ((k : Int), us (closN g k))) g.length (fun k hk => by
    show impl_closures_l1 g k (us (closN g k)) = _
    unfold impl_closures_l1
    have hlt := closN_lt h40 k (by omega)
    have hm : ∀ x ∈ g[k], 0 ≤ x ∧ x < ((closN g k).length : Int) := fun x hx => by
      have := gOk_mem hg hk hx
      rw [closN_len]
      omega
    have e : g.getD k [] = g[k] := by simp [hk]
    rw [ifT (by simpa using hk), geti_nat, List.getElem?_eq_getElem hk, Option.bind_some, unionOf_eq hlt hm (by have := (gOk_at hg hk).1; omega), Option.bind_some, wku64 (by omega) (by omega), chk_in (by omega), Option.bind_some,
      geti_in (by omega) (by simp [closN_len]; omega), Option.bind_some, shl_one (by omega), or_u64 (orL_lt hlt _) (Nat.pow_lt_pow_right (by decide) (by omega)), wk64 (by omega) (by omega), Int.toNat_natCast, closN, e]
    simp [us, List.map_set]) (by
    show impl_closures_l1 g g.length (us (closN g g.length)) = _
    unfold impl_closures_l1
    rw [ifF (by simp)])
  have e0 : ((0 : Int), List.replicate g.length (0 : Int)) = (((0 : Nat) : Int), us (closN g 0)) := by simp [us, closN]
  rw [e0, this]
  rfl
theorem setHas_eq {s : Nat} {v : Int} (hs : s < 2 ^ 64) : impl_set_has (s : Int) v = some (decide (0 ≤ v) && decide (v ≤ 63) && s.testBit v.toNat) := by
  unfold impl_set_has
  rw [inRange_eq, Option.bind_some]
  cases h : (decide (0 ≤ v) && decide (v ≤ 63)) with
  | false => rfl
  | true =>
    have h' : 0 ≤ v ∧ v ≤ 63 := by simpa using h
    obtain ⟨n, rfl⟩ : ∃ n : Nat, v = n := ⟨v.toNat, by omega⟩
    rw [if_pos rfl, wku64 (by omega) (by omega), chk_in (by omega), Option.bind_some, shr_test s n hs (by omega), Int.toNat_natCast]
    rfl
theorem ints_snoc (l : List Nat) (v : Nat) : ints (l ++ [v]) = ints l ++ [(v : Int)] := by simp [ints]
theorem ints_len (l : List Nat) : (ints l).length = l.length := by simp [ints]
theorem setList_eq {s : Nat} (hs : s < 2 ^ 64) : impl_set_list (s : Int) = some (ints (bitsL s 64)) := by
  unfold impl_set_list
  have := loopM_at (body := fun (s' : Int × (List Int)) => impl_set_list_l1 (s : Int) s'.1 s'.2) (r := ints (bitsL s 64)) (fun k => ((k : Int), ints (bitsL s k))) 64 (fun k hk => by
    show impl_set_list_l1 (s : Int) k (ints (bitsL s k)) = _
    unfold impl_set_list_l1
    have hlen := bitsL_len s k
    have hh : (decide (0 ≤ (k : Int)) && decide ((k : Int) ≤ 63)) = true := by simp; omega
    rw [ifT (by simp; omega), setHas_eq hs, Option.bind_some, hh, Bool.true_and, Int.toNat_natCast, appn_in (by simp [ints_len]; omega), Option.bind_some, wk64 (by omega) (by omega), bitsL_succ]
    cases s.testBit k
    · simp
    · simp [ints_snoc]) (by
    show impl_set_list_l1 (s : Int) ((64 : Nat) : Int) (ints (bitsL s 64)) = _
    unfold impl_set_list_l1
    rw [ifF (by simp)])
  have e0 : ((0 : Int), ([] : List Int)) = (((0 : Nat) : Int), ints (bitsL s 0)) := rfl
  rw [e0, this]
  rfl
def closI (g : List (List Int)) (v : Int) : List Nat := if (decide (0 ≤ v) && decide (v < g.length) && gOk g) = true then bitsL (clo g v.toNat) 64 else []
theorem closureOfI_eq {g : List (List Int)} {v : Int} (hl : g.length ≤ 10000000) : impl_ClosureOf g v = some (ints (closI g v)) := by
  unfold impl_ClosureOf closI
  rw [isPlace_eq (by omega) (by omega), Option.bind_some, graphOkI_eq hl, Option.bind_some]
  cases h : (decide (0 ≤ v) && decide (v < (g.length : Int))) with
  | false => simp [ints]
  | true =>
    cases h2 : gOk g with
    | false => simp [ints]
    | true =>
      have h' : 0 ≤ v ∧ v < (g.length : Int) := by simpa using h
      have e : (closN g g.length)[v.toNat]'(by rw [closN_len]; omega) = clo g v.toNat := by simp [clo, closN_len, show v.toNat < g.length by omega]
      rw [closures_eq h2]
      simp only [Bool.not_true, Bool.false_eq_true, if_false, Option.bind_some, Bool.and_self, if_true]
      rw [geti_in h'.1 (by simp [closN_len]; omega), Option.bind_some, List.getElem_map, e, setList_eq (clo_lt h2 _)]
      rfl
/-! ### The reference -/
theorem l05Has_eq {g : List (List Int)} {v : Int} (hl : g.length ≤ 10000000) : spec_l05Has g v = some (gOk g && (decide (0 ≤ v) && decide (v < g.length))) := by
  unfold spec_l05Has
  rw [graphOkS_eq hl, Option.bind_some, wk64 (by omega) (by omega), l01In_eq, Option.bind_some]
  have : decide (v ≤ (g.length : Int) - 1) = decide (v < (g.length : Int)) := by simp only [decide_eq_decide]; omega
  rw [this]
  cases gOk g <;> rfl
theorem l05List_eq {b : List Bool} (hb : b.length ≤ 1000000000) : spec_l05List b = some (ints (trues b b.length)) := by
  unfold spec_l05List
  have := loopM_at (body := fun (s' : Int × (List Int)) => spec_l05List_l1 b s'.1 s'.2) (r := ints (trues b b.length)) (fun k => ((k : Int), ints (trues b k))) b.length (fun k hk => by
    show spec_l05List_l1 b k (ints (trues b k)) = _
    unfold spec_l05List_l1
    have hlen := trues_len b k
    have e : b.getD k false = b[k] := by simp [hk]
    rw [ifT (by simpa using hk), geti_nat, List.getElem?_eq_getElem hk, Option.bind_some, appn_in (by simp [ints_len]; omega), Option.bind_some, wk64 (by omega) (by omega), trues_succ, e]
    cases b[k]
    · simp
    · simp [ints_snoc]) (by
    show spec_l05List_l1 b b.length (ints (trues b b.length)) = _
    unfold spec_l05List_l1
    rw [ifF (by simp)])
  have e0 : ((0 : Int), ([] : List Int)) = (((0 : Nat) : Int), ints (trues b 0)) := rfl
  rw [e0, this]
  rfl
theorem mark_keep {b : List Bool} {l : List Int} {v : Nat} (h : b.getD v false = true) : (mark b l).getD v false = true := by rw [mark_get, h]; rfl
theorem l05Set_eq {g : List (List Int)} {l : List Int} (hg : gOk g = true) (hl : l.length ≤ 1000000000) : spec_l05Set g l = some (setL g l) := by
  have h40 := gOk_len hg
  unfold spec_l05Set
  rw [mkl_in (by omega) (by omega), Option.bind_some, Int.toNat_natCast]
  have h1 := loopM_at (body := fun (s' : Int × (List Bool)) => spec_l05Set_l3 g l s'.1 s'.2) (r := mark (List.replicate g.length false) l) (fun k => ((k : Int), mark (List.replicate g.length false) (l.take k))) l.length (fun k hk => by
    show spec_l05Set_l3 g l k (mark (List.replicate g.length false) (l.take k)) = _
    unfold spec_l05Set_l3
    rw [ifT (by simpa using hk), geti_nat, List.getElem?_eq_getElem hk, Option.bind_some, wk64 (x := (g.length : Int) - 1) (by omega) (by omega), l01In_eq, Option.bind_some, wk64 (by omega) (by omega), mark_take hk, List.length_replicate]
    by_cases h : 0 ≤ l[k] ∧ l[k] < (g.length : Int)
    · rw [if_pos h, ifT (by simp; omega), geti_in h.1 (by rw [mark_len]; simp; omega)]
      rfl
    · rw [if_neg h, ifF (by simp; omega)]
      rfl) (by
    show spec_l05Set_l3 g l l.length (mark (List.replicate g.length false) (l.take l.length)) = _
    unfold spec_l05Set_l3
    rw [ifF (by simp), List.take_length])
  have e0 : ((0 : Int), List.replicate g.length false) = (((0 : Nat) : Int), mark (List.replicate g.length false) (l.take 0)) := rfl
  rw [e0, h1, Option.bind_some]
  unfold spec_l05Set_j1
  have hlen0 : (mark (List.replicate g.length false) l).length = g.length := by rw [mark_len]; simp
  -- the states of the second loop
  let B : Nat → List Bool := fun k => Nat.rec (mark (List.replicate g.length false) l) (fun k b => step g b (g.length - 1 - k)) k
  have B0 : B 0 = mark (List.replicate g.length false) l := rfl
  have BS : ∀ k, B (k + 1) = step g (B k) (g.length - 1 - k) := fun k => rfl
  have Blen : ∀ k, (B k).length = g.length := by
    intro k
    induction k with
    | zero => exact hlen0
    | succ k ih =>
      rw [BS, step]
      split
      · rw [mark_len]; exact ih
      · exact ih
  have Bd : ∀ m k, k + m = g.length → down g m (B k) = down g 0 (B g.length) := by
    intro m
    induction m with
    | zero => intro k hk; rw [Nat.add_zero] at hk; subst hk; rfl
    | succ m ih =>
      intro k hk
      have := ih (k + 1) (by omega)
      rw [BS, show g.length - 1 - k = m by omega] at this
      exact this
  have h2 := loopM_at (body := fun (s' : Int × (List Bool)) => spec_l05Set_l1 g s'.1 s'.2) (r := B g.length) (fun k => ((g.length : Int) - 1 - k, B k)) g.length (fun k hk => by
    show spec_l05Set_l1 g ((g.length : Int) - 1 - k) (B k) = _
    unfold spec_l05Set_l1
    obtain ⟨v, hv⟩ : ∃ v, g.length - 1 - k = v := ⟨_, rfl⟩
    have ev : (g.length : Int) - 1 - k = (v : Int) := by omega
    have hvl : v < g.length := by omega
    have Bl := Blen k
    rw [ev, ifT (by simp)]
    have egv : g.getD v [] = g[v] := by simp [hvl]
    have h3 := loopM_at (body := fun (s' : Int × (List Bool)) => spec_l05Set_l2 g v s'.1 s'.2) (r := step g (B k) v) (fun j => ((j : Int), mark (B k) (g[v].take j))) (if (B k).getD v false = true then g[v].length else 0) (fun j hj => by
      show spec_l05Set_l2 g v j (mark (B k) (g[v].take j)) = _
      unfold spec_l05Set_l2
      split at hj
      case isFalse => omega
      rename_i hb
      have hmem := gOk_mem hg hvl (List.getElem_mem hj)
      have hml : (mark (B k) (g[v].take j)).length = g.length := by rw [mark_len]; exact Bl
      have hkeep : (mark (B k) (g[v].take j))[v]? = some true := by
        have := mark_keep (l := g[v].take j) hb
        rw [List.getD_eq_getElem?_getD] at this
        rw [List.getElem?_eq_getElem (by omega)] at this ⊢
        simpa using this
      rw [geti_nat, List.getElem?_eq_getElem hvl, Option.bind_some, ifT (by simpa using hj), geti_nat, hkeep]
      simp only [Option.bind_some]
      rw [if_pos trivial, geti_nat, List.getElem?_eq_getElem hj, Option.bind_some, geti_in hmem.1 (by omega), Option.bind_some, wk64 (by have := (gOk_at hg hvl).1; omega) (by have := (gOk_at hg hvl).1; omega), mark_take hj, if_pos (by omega)]
      rfl) (by
      show spec_l05Set_l2 g v ((if (B k).getD v false = true then g[v].length else 0 : Nat) : Int) (mark (B k) (g[v].take (if (B k).getD v false = true then g[v].length else 0))) = _
      unfold spec_l05Set_l2 step
      rw [geti_nat, List.getElem?_eq_getElem hvl, Option.bind_some]
      split
      · rename_i hb
        rw [List.take_length, ifF (by simp), egv]
        simp
      · rename_i hb
        have hf : (B k)[v]? = some false := by
          rw [List.getD_eq_getElem?_getD, List.getElem?_eq_getElem (by omega)] at hb
          rw [List.getElem?_eq_getElem (by omega)]
          simpa using hb
        rw [List.take_zero, show mark (B k) [] = B k from rfl, geti_nat, hf]
        by_cases q : (((0 : Nat) : Int) < (g[v].length : Int)) <;> simp [q])
    have e2 : ((0 : Int), B k) = (((0 : Nat) : Int), mark (B k) (g[v].take 0)) := rfl
    rw [e2, h3, Option.bind_some]
    unfold spec_l05Set_j3
    rw [wk64 (by omega) (by omega), BS, hv, show ((v : Int) - 1) = (g.length : Int) - 1 - ((k + 1 : Nat) : Int) by omega]) (by
    show spec_l05Set_l1 g ((g.length : Int) - 1 - g.length) (B g.length) = _
    unfold spec_l05Set_l1
    rw [ifF (by simp; omega)])
  have e3 : (wk .i64 ((g.length : Int) - 1), mark (List.replicate g.length false) l) = ((g.length : Int) - 1 - ((0 : Nat) : Int), B 0) := by rw [wk64 (by omega) (by omega), B0]; simp
  rw [e3, h2, Option.bind_some]
  unfold spec_l05Set_j2 setL
  have := Bd g.length 0 (by omega)
  rw [B0] at this
  rw [this]
  rfl
theorem closureOfS_eq {g : List (List Int)} {v : Int} (hl : g.length ≤ 10000000) : spec_ClosureOf g v = some (ints (closI g v)) := by
  unfold spec_ClosureOf closI
  rw [l05Has_eq hl, Option.bind_some]
  cases h2 : gOk g with
  | false => simp [ints]
  | true =>
    cases h : (decide (0 ≤ v) && decide (v < (g.length : Int))) with
    | false => simp [ints]
    | true =>
      have h' : 0 ≤ v ∧ v < (g.length : Int) := by simpa using h
      rw [l05Set_eq h2 (by simp)]
      simp only [Bool.and_true, Bool.not_true, Bool.false_eq_true, if_false, Option.bind_some, Bool.and_self, if_true]
      rw [l05List_eq (by rw [setL_len]; have := gOk_len h2; omega), Option.bind_some, setL_len, setL_bits h2 _ (by simpa using h')]
      have : orL (closN g g.length) [v] = clo g v.toNat := by simp [orL, clo]
      rw [this]
end Go.TV.F
/- Plain Lean: the laws' helpers over lists of ints. -/
namespace Go.TV.F
open Go.TV

/-! ### []int -/
theorem toIntS_eq {a : List Int} (h : a.length ≤ 1000000000) : laws_toIntS a = some a := by
  unfold laws_toIntS
  rw [mkl_in (by omega) (by omega), Option.bind_some, Int.toNat_natCast]
  have := to_loop (body := fun (s' : Int × List Int) => laws_toIntS_l1 a s'.1 s'.2) a (fun x => x) 0 (fun i x out hi hl => by
    have hlt := (List.getElem?_eq_some_iff.1 hi).1
    show laws_toIntS_l1 a i out = _
    unfold laws_toIntS_l1
    rw [ifT (by simpa using hlt), geti_nat, hi, Option.bind_some, geti_nat, List.getElem?_eq_getElem (by omega), Option.bind_some, wk64 (by omega) (by omega), Int.toNat_natCast]
    rfl) (fun out hl => by
    show laws_toIntS_l1 a a.length out = _
    unfold laws_toIntS_l1
    rw [ifF (by simp)])
  rw [this, List.map_id']
  rfl
theorem eqIntS_refl {a : List Int} (h : a.length ≤ 1000000000) : laws_eqIntS a a = some true := by
  unfold laws_eqIntS
  rw [ifF (by simp)]
  have := eq_loop (body := fun s' => laws_eqIntS_l1 a a s') (r := .inr ()) a.length (fun i hi => by
    unfold laws_eqIntS_l1
    rw [ifT (by simpa using hi), geti_nat, List.getElem?_eq_getElem hi, Option.bind_some, Option.bind_some, ifF (by simp), wk64 (by omega) (by omega)]
    rfl) (by
    unfold laws_eqIntS_l1
    rw [ifF (by simp)])
  rw [this]
  rfl
def mkI (a : List Int) (k : Int) : List Int := mkL (fun _ => 1) (fun _ k => k) a k
theorem sum1 {α : Type} (a : List α) : sumOf (fun _ => 1) a = a.length := by
  induction a with
  | nil => rfl
  | cons x l ih => simp [sumOf, ih]; omega
theorem markIntS_eq {a : List Int} {k : Int} (h1 : 1 ≤ k) (h2 : k + a.length ≤ 1000000000) : laws_markIntS a k = some (k + a.length, mkI a k) := by
  unfold laws_markIntS
  have := mark_loop (body := fun (s' : Int × Int × List Int) => laws_markIntS_l1 s'.1 s'.2.1 s'.2.2) (fun _ => 1) (fun _ k => k) a k 1000000000 h1 (by rw [sum1]; exact h2) (fun k i x l hi hx hl hk hB => by
    have hlt := (List.getElem?_eq_some_iff.1 hi).1
    show laws_markIntS_l1 k i l = _
    unfold laws_markIntS_l1
    rw [ifT (by simpa using hlt), geti_nat, hi, Option.bind_some, wk64 (x := k + 1) (by omega) (by omega), wk64 (by omega) (by omega), Int.toNat_natCast]
    rfl) (fun k l hl => by
    show laws_markIntS_l1 k a.length l = _
    unfold laws_markIntS_l1
    rw [ifF (by simp; omega)])
  rw [this, sum1]
  rfl
theorem heldIntS_eq {a : List Int} {k : Int} (h1 : 1 ≤ k) (h2 : k + a.length ≤ 1000000000) : laws_heldIntS (mkI a k) k = some (k + a.length) := by
  unfold laws_heldIntS
  have := held_loop (body := fun (s' : Int × Int) => laws_heldIntS_l1 (mkI a k) s'.1 s'.2) (r := .inr) (fun _ => 1) (fun _ k => k) a k 1000000000 h1 (by rw [sum1]; exact h2) (fun q i x hi hl hx hk hB => by
    show laws_heldIntS_l1 (mkI a k) q i = _
    unfold laws_heldIntS_l1
    have hi' : (mkI a k)[i]? = some q := hi
    rw [ifT (by unfold mkI; rw [mkL_len]; simpa using hl), geti_nat, hi', Option.bind_some, ifF (by simp), wk64 (x := q + 1) (by omega) (by omega), wk64 (by omega) (by omega)]
    rfl) (fun q => by
    show laws_heldIntS_l1 (mkI a k) q a.length = _
    unfold laws_heldIntS_l1
    rw [ifF (by unfold mkI; rw [mkL_len]; simp)])
  rw [this, sum1]
  rfl
theorem szIntS_eq {a : List Int} {s : Int} (h : a.length ≤ 1000000000000000) (h0 : 0 ≤ s) (h1 : s ≤ 1048576) : laws_szIntS a s = some (if (a.length : Int) ≤ s then s - a.length else -1) := by
  unfold laws_szIntS
  rw [wk64 (by omega) (by omega)]
  by_cases q : (a.length : Int) ≤ s
  · rw [ifF (by simp; omega), if_pos q]
  · rw [ifT (by simp; omega), if_neg q]
/-! ### [][]int -/
def wII (a : List (List Int)) : Nat := a.length + sumOf List.length a
theorem wII_mem {a : List (List Int)} {p : List Int} (h : p ∈ a) : p.length ≤ wII a := by
  have := sumOf_mem (w := List.length) h
  unfold wII
  omega
theorem szIntSS_eq {a : List (List Int)} {s : Int} (h : a.length ≤ 1000000000000000) (hp : ∀ p ∈ a, p.length ≤ 1000000000000000) (h0 : 0 ≤ s) (h1 : s ≤ 1048576) : laws_szIntSS a s = some (if (wII a : Int) ≤ s then s - wII a else -1) := by
  unfold laws_szIntSS wII
  rw [wk64 (by omega) (by omega)]
  by_cases q : (a.length : Int) ≤ s
  · rw [ifF (by simp; omega)]
    have := sz_loop (body := fun (s' : Int × Int) => laws_szIntSS_l1 a s'.1 s'.2) List.length a (s - a.length) (by omega) (fun t i x hi h2 h3 => by
      have hlt := (List.getElem?_eq_some_iff.1 hi).1
      show laws_szIntSS_l1 a t i = _
      unfold laws_szIntSS_l1
      rw [ifT (by simpa using hlt), geti_nat, hi, Option.bind_some, szIntS_eq (hp x (List.mem_of_getElem? hi)) h2 (by omega), Option.bind_some, wk64 (by omega) (by omega)]
      by_cases q2 : (x.length : Int) ≤ t
      · rw [if_pos q2, if_pos q2, ifF (by simp; omega)]
        rfl
      · rw [if_neg q2, if_neg q2, ifT (by simp)]) (fun t => by
      show laws_szIntSS_l1 a t a.length = _
      unfold laws_szIntSS_l1
      rw [ifF (by simp)])
    rw [this, Option.bind_some]
    by_cases q2 : (sumOf List.length a : Int) ≤ s - a.length
    · rw [if_pos q2, if_pos (by omega)]
      simp only [laws_szIntSS_j1, Option.some.injEq]
      omega
    · rw [if_neg q2, if_neg (by omega)]
  · rw [ifT (by simp; omega), if_neg (by omega)]
theorem toIntSS_eq {a : List (List Int)} (h : wII a ≤ 1000000000) : laws_toIntSS a = some a := by
  have hl : a.length ≤ 1000000000 := by unfold wII at h; omega
  unfold laws_toIntSS
  rw [mkl_in (by omega) (by omega), Option.bind_some, Int.toNat_natCast]
  have := to_loop (body := fun (s' : Int × List (List Int)) => laws_toIntSS_l1 a s'.1 s'.2) a (fun x => x) [] (fun i x out hi hl => by
    have hlt := (List.getElem?_eq_some_iff.1 hi).1
    have := wII_mem (List.mem_of_getElem? hi)
    show laws_toIntSS_l1 a i out = _
    unfold laws_toIntSS_l1
    rw [ifT (by simpa using hlt), geti_nat, hi, Option.bind_some, toIntS_eq (by omega), Option.bind_some, geti_nat, List.getElem?_eq_getElem (by omega), Option.bind_some, wk64 (by omega) (by omega), Int.toNat_natCast]
    rfl) (fun out hl => by
    show laws_toIntSS_l1 a a.length out = _
    unfold laws_toIntSS_l1
    rw [ifF (by simp)])
  rw [this, List.map_id']
  rfl
theorem eqIntSS_refl {a : List (List Int)} (h : wII a ≤ 1000000000) : laws_eqIntSS a a = some true := by
  have hl : a.length ≤ 1000000000 := by unfold wII at h; omega
  unfold laws_eqIntSS
  rw [ifF (by simp)]
  have := eq_loop (body := fun s' => laws_eqIntSS_l1 a a s') (r := .inr ()) a.length (fun i hi => by
    have := wII_mem (List.getElem_mem hi)
    unfold laws_eqIntSS_l1
    rw [ifT (by simpa using hi), geti_nat, List.getElem?_eq_getElem hi, Option.bind_some, Option.bind_some, eqIntS_refl (by omega), Option.bind_some, ifF (by simp), wk64 (by omega) (by omega)]
    rfl) (by
    unfold laws_eqIntSS_l1
    rw [ifF (by simp)])
  rw [this]
  rfl
def mkII (a : List (List Int)) (k : Int) : List (List Int) := mkL List.length mkI a k
theorem markIntSS_eq {a : List (List Int)} {k : Int} (h1 : 1 ≤ k) (h2 : k + wII a ≤ 1000000000) : laws_markIntSS a k = some (k + sumOf List.length a, mkII a k) := by
  unfold laws_markIntSS
  unfold wII at h2
  have := mark_loop (body := fun (s' : Int × Int × List (List Int)) => laws_markIntSS_l1 s'.1 s'.2.1 s'.2.2) List.length mkI a k 1000000000 h1 (by omega) (fun k i x l hi hx hl hk hB => by
    have hlt := (List.getElem?_eq_some_iff.1 hi).1
    show laws_markIntSS_l1 k i l = _
    unfold laws_markIntSS_l1
    rw [ifT (by simpa using hlt), geti_nat, hi, Option.bind_some, markIntS_eq hk hB, Option.bind_some, wk64 (by omega) (by omega), Int.toNat_natCast]
    rfl) (fun k l hl => by
    show laws_markIntSS_l1 k a.length l = _
    unfold laws_markIntSS_l1
    rw [ifF (by simp; omega)])
  rw [this]
  rfl
end Go.TV.F
/- Plain Lean: the exact laws over graphs. -/
namespace Go.TV.F
open Go.TV

theorem closI_len (g : List (List Int)) (v : Int) : (ints (closI g v)).length ≤ 64 := by
  rw [ints_len]
  unfold closI
  split
  · exact bitsL_len _ _
  · simp
theorem fnExactClosureOf_true {g : List (List Int)} {v : Int} (h : g.length ≤ 1000000000000000) (hp : ∀ p ∈ g, p.length ≤ 1000000000000000) : laws_FnExactClosureOf g v = some true := by
  unfold laws_FnExactClosureOf
  rw [szIntSS_eq h hp (by omega) (by omega), Option.bind_some]
  by_cases q : (wII g : Int) ≤ 1048576
  · rw [if_pos q, ifF (by simp; omega)]
    have hg : g.length ≤ 10000000 := by unfold wII at q; omega
    have hc := closI_len g v
    simp only [toIntSS_eq (a := g) (by omega), closureOfS_eq hg, closureOfI_eq hg, Option.bind_some, eqIntS_refl (a := ints (closI g v)) (by omega), eqIntSS_refl (a := g) (by omega),
      markIntSS_eq (a := g) (k := 1) (by omega) (by omega), markIntS_eq (a := ints (closI g v)) (k := 1) (by omega) (by omega), heldIntS_eq (a := ints (closI g v)) (k := 1) (by omega) (by omega), Bool.not_true, Bool.false_eq_true, if_false]
    rw [ifF (by simp; omega)]
    simp only [Option.bind_some, Bool.false_eq_true, if_false, bne_self_eq_false]
    rw [ifF (by simp; omega)]
    rw [ifF (by simp; omega)]
  · rw [if_neg q, ifT (by simp)]
/-! ### ProperOf -/
def allIn (g : List (List Int)) (l : List Int) : Bool := (List.range l.length).all fun i => decide (0 ≤ l.getD i 0) && decide (l.getD i 0 < g.length)
theorem allIn_mem {g : List (List Int)} {l : List Int} (h : allIn g l = true) : ∀ x ∈ l, 0 ≤ x ∧ x < (g.length : Int) := fun x hx => by
  obtain ⟨i, hi, rfl⟩ := List.getElem_of_mem hx
  have := List.all_eq_true.1 h i (List.mem_range.2 hi)
  simpa [hi] using this
def propL (g : List (List Int)) (l : List Int) : List Nat := if (gOk g && allIn g l) = true then bitsL (orL (closN g g.length) l) 64 else []
theorem properOfI_eq {g : List (List Int)} {l : List Int} (hl : g.length ≤ 10000000) (hll : l.length ≤ 10000000) : impl_ProperOf g l = some (ints (propL g l)) := by
  unfold impl_ProperOf propL
  rw [graphOkI_eq hl, Option.bind_some]
  cases h2 : gOk g with
  | false => simp [ints]
  | true =>
    have := loopM_all (body := fun s' => impl_ProperOf_l1 g l s') (good := .inr ()) (bad := .inl []) (fun k => (k : Int)) l.length (fun i => decide (0 ≤ l.getD i 0) && decide (l.getD i 0 < g.length)) (fun k hk _ hp => by
      show impl_ProperOf_l1 g l k = _
      have e : l.getD k 0 = l[k] := by simp [hk]
      rw [e] at hp
      unfold impl_ProperOf_l1
      rw [ifT (by simpa using hk), geti_nat, List.getElem?_eq_getElem hk, Option.bind_some, isPlace_eq (by omega) (by omega), Option.bind_some, hp, wk64 (by omega) (by omega)]
      rfl) (fun k hk _ hp => by
      show impl_ProperOf_l1 g l k = _
      have e : l.getD k 0 = l[k] := by simp [hk]
      rw [e] at hp
      unfold impl_ProperOf_l1
      rw [ifT (by simpa using hk), geti_nat, List.getElem?_eq_getElem hk, Option.bind_some, isPlace_eq (by omega) (by omega), Option.bind_some, hp]
      rfl) (fun _ => by
      show impl_ProperOf_l1 g l l.length = _
      unfold impl_ProperOf_l1
      rw [ifF (by simp)])
    rw [show (0 : Int) = ((0 : Nat) : Int) from rfl, this]
    simp only [Bool.not_true, Bool.false_eq_true, if_false, Option.bind_some, Bool.true_and]
    show _ = some (ints (if allIn g l = true then _ else _))
    cases h3 : allIn g l with
    | false =>
      rw [if_neg (by unfold allIn at h3; rw [h3]; simp)]
      simp [ints]
    | true =>
      rw [if_pos (by unfold allIn at h3; rw [h3])]
      simp only [if_true]
      unfold impl_ProperOf_j1
      rw [closures_eq h2, Option.bind_some, unionOf_eq (closN_lt (gOk_len h2) _ (Nat.le_refl _)) (fun x hx => by rw [closN_len]; exact allIn_mem h3 x hx) (by omega), Option.bind_some, setList_eq (orL_lt (closN_lt (gOk_len h2) _ (Nat.le_refl _)) _)]
      rfl
def okTo (g : List (List Int)) (l : List Int) (k : Nat) : Bool := match k with | 0 => true | k + 1 => decide (0 ≤ l.getD k 0) && decide (l.getD k 0 < g.length)
theorem properOfS_eq {g : List (List Int)} {l : List Int} (hl : g.length ≤ 10000000) (hll : l.length ≤ 10000000) : spec_ProperOf g l = some (ints (propL g l)) := by
  unfold spec_ProperOf propL
  rw [graphOkS_eq hl, Option.bind_some]
  let p : Nat → Bool := fun i => decide (0 ≤ l.getD i 0) && decide (l.getD i 0 < g.length)
  have hp : ∀ i, p i = (decide (0 ≤ l.getD i 0) && decide (l.getD i 0 < g.length)) := fun i => rfl
  have step : ∀ (k : Nat), k < l.length → spec_ProperOf_l1 g l true k = some (.inl (p k, ((k + 1 : Nat) : Int))) := fun k hk => by
    unfold spec_ProperOf_l1
    have e : l.getD k 0 = l[k] := by simp [hk]
    have e2 : decide (l[k] ≤ (g.length : Int) - 1) = decide (l[k] < (g.length : Int)) := by simp only [decide_eq_decide]; omega
    rw [ifT (by simpa using hk), Option.bind_some, ifT rfl, geti_nat, List.getElem?_eq_getElem hk, Option.bind_some, wk64 (x := (g.length : Int) - 1) (by omega) (by omega), l01In_eq, Option.bind_some, wk64 (by omega) (by omega), hp, e, e2]
    rfl
  have stop : ∀ (k : Nat), spec_ProperOf_l1 g l false k = some (.inr false) := fun k => by
    unfold spec_ProperOf_l1
    by_cases h : decide ((k : Int) < (l.length : Int)) = true
    · rw [ifT h]; rfl
    · rw [if_neg h]; rfl
  have done : spec_ProperOf_l1 g l true l.length = some (.inr true) := by
    unfold spec_ProperOf_l1
    rw [ifF (by simp)]
    rfl
  have key : ∀ m k, k + m = l.length → loopM (fun (s' : Bool × Int) => spec_ProperOf_l1 g l s'.1 s'.2) (true, (k : Int)) = some ((List.range' k m).all p) := by
    intro m
    induction m with
    | zero =>
      intro k hk
      rw [loopM_eq]
      show (spec_ProperOf_l1 g l true k).bind _ = _
      rw [show k = l.length by omega, done]
      rfl
    | succ m ih =>
      intro k hk
      rw [loopM_eq]
      show (spec_ProperOf_l1 g l true k).bind _ = _
      rw [step k (by omega), Option.bind_some, List.range'_succ, List.all_cons]
      cases q : p k with
      | true => rw [Bool.true_and]; exact ih (k + 1) (by omega)
      | false =>
        show loopM _ _ = _
        rw [loopM_eq]
        show (spec_ProperOf_l1 g l false ((k + 1 : Nat) : Int)).bind _ = _
        rw [stop]
        rfl
  have hall : allIn g l = (List.range' 0 l.length).all p := by rw [← List.range_eq_range']; rfl
  cases h2 : gOk g with
  | false =>
    have : loopM (fun (s' : Bool × Int) => spec_ProperOf_l1 g l s'.1 s'.2) (false, (0 : Int)) = some false := by
      rw [loopM_eq]
      show (spec_ProperOf_l1 g l false ((0 : Nat) : Int)).bind _ = _
      rw [stop]
      rfl
    rw [this]
    simp [spec_ProperOf_j1, ints]
  | true =>
    have := key l.length 0 (by omega)
    rw [show ((0 : Nat) : Int) = 0 from rfl] at this
    rw [this, Option.bind_some, ← hall]
    unfold spec_ProperOf_j1
    cases h3 : allIn g l with
    | false => simp [ints]
    | true =>
      rw [l05Set_eq h2 (by omega)]
      simp only [Bool.not_true, Bool.false_eq_true, if_false, Option.bind_some, Bool.and_self, if_true]
      rw [l05List_eq (by rw [setL_len]; have := gOk_len h2; omega), Option.bind_some, setL_len, setL_bits h2 _ (allIn_mem h3)]
theorem propL_len (g : List (List Int)) (l : List Int) : (ints (propL g l)).length ≤ 64 := by
  rw [ints_len]
  unfold propL
  split
  · exact bitsL_len _ _
  · simp
theorem fnExactProperOf_true {g : List (List Int)} {l : List Int} (h : g.length ≤ 1000000000000000) (hp : ∀ p ∈ g, p.length ≤ 1000000000000000) : laws_FnExactProperOf g l = some true := by
  unfold laws_FnExactProperOf
  by_cases ql : l.length ≤ 1048576
  · rw [ifF (by simp; omega), szIntSS_eq h hp (by omega) (by omega), Option.bind_some]
    by_cases q : (wII g : Int) ≤ 1048576
    · rw [if_pos q, ifF (by simp; omega)]
      have hg : g.length ≤ 10000000 := by unfold wII at q; omega
      have hw : sumOf List.length g ≤ wII g := by unfold wII; omega
      have hc := propL_len g l
      simp only [toIntSS_eq (a := g) (by omega), toIntS_eq (a := l) (by omega), properOfS_eq (l := l) hg (by omega), properOfI_eq (l := l) hg (by omega), Option.bind_some, eqIntS_refl (a := ints (propL g l)) (by omega), eqIntS_refl (a := l) (by omega), eqIntSS_refl (a := g) (by omega),
        markIntSS_eq (a := g) (k := 1) (by omega) (by omega), markIntS_eq (a := l) (k := 1 + sumOf List.length g) (by omega) (by omega), markIntS_eq (a := ints (propL g l)) (k := 1) (by omega) (by omega), heldIntS_eq (a := ints (propL g l)) (k := 1) (by omega) (by omega), Bool.not_true, Bool.false_eq_true, if_false]
      rw [ifF (by simp; omega)]
      simp only [Option.bind_some, Bool.false_eq_true, if_false, bne_self_eq_false]
      rw [ifF (by simp; omega)]
      rw [ifF (by simp; omega)]
    · rw [if_neg q, ifT (by simp)]
  · rw [ifT (by simp; omega)]
/-! ### Commons -/
def commB (g : List (List Int)) (a b : Int) : Bool := decide (0 ≤ a) && decide (a < g.length) && (decide (0 ≤ b) && decide (b < g.length)) && gOk g
def commL (g : List (List Int)) (a b : Int) : List Nat := if commB g a b = true then bitsL (clo g a.toNat &&& clo g b.toNat) 64 else []
theorem clo_get {g : List (List Int)} {v : Int} (h0 : 0 ≤ v) (h1 : v < g.length) : geti (us (closN g g.length)) v = some ((clo g v.toNat : Nat) : Int) := by
  have e : (closN g g.length)[v.toNat]'(by rw [closN_len]; omega) = clo g v.toNat := by simp [clo, closN_len, show v.toNat < g.length by omega]
  rw [geti_in h0 (by simp [closN_len]; omega), List.getElem_map, e]
theorem commons_eq {g : List (List Int)} {a b : Int} (hl : g.length ≤ 10000000) : impl_commons g a b = some (if commB g a b = true then (((clo g a.toNat &&& clo g b.toNat : Nat) : Int), us (closN g g.length)) else (0, [])) := by
  unfold impl_commons
  rw [isPlace_eq (by omega) (by omega), Option.bind_some, isPlace_eq (by omega) (by omega), Option.bind_some, graphOkI_eq hl, Option.bind_some]
  unfold commB
  cases h1 : (decide (0 ≤ a) && decide (a < (g.length : Int))) with
  | false => simp
  | true =>
    cases h2 : (decide (0 ≤ b) && decide (b < (g.length : Int))) with
    | false => simp
    | true =>
      cases h3 : gOk g with
      | false => simp
      | true =>
        have h1' : 0 ≤ a ∧ a < (g.length : Int) := by simpa using h1
        have h2' : 0 ≤ b ∧ b < (g.length : Int) := by simpa using h2
        rw [closures_eq h3]
        simp only [Bool.not_true, Bool.false_eq_true, if_false, Option.bind_some, Bool.and_self, if_true]
        rw [clo_get h1'.1 h1'.2, Option.bind_some, clo_get h2'.1 h2'.2, Option.bind_some, and_u64 (clo_lt h3 _) (clo_lt h3 _)]
theorem and_lt {a b : Nat} (h : a < 2 ^ 64) : a &&& b < 2 ^ 64 := Nat.lt_of_le_of_lt Nat.and_le_left h
theorem commonsI_eq {g : List (List Int)} {a b : Int} (hl : g.length ≤ 10000000) : impl_Commons g a b = some (ints (commL g a b)) := by
  unfold impl_Commons commL
  rw [commons_eq hl, Option.bind_some]
  cases h : commB g a b with
  | false =>
    simp only [Bool.false_eq_true, if_false]
    rw [show (0 : Int) = ((0 : Nat) : Int) from rfl, setList_eq (by decide)]
    rfl
  | true =>
    simp only [if_true]
    have h3 : gOk g = true := by unfold commB at h; simp at h; exact h.2
    rw [setList_eq (and_lt (clo_lt h3 _))]
    rfl
theorem commonsS_eq {g : List (List Int)} {a b : Int} (hl : g.length ≤ 10000000) : spec_Commons g a b = some (ints (commL g a b)) := by
  unfold spec_Commons commL
  rw [l05Has_eq hl, Option.bind_some, l05Has_eq hl, Option.bind_some]
  unfold commB
  cases h3 : gOk g with
  | false => simp [ints]
  | true =>
    cases h1 : (decide (0 ≤ a) && decide (a < (g.length : Int))) with
    | false => simp [ints]
    | true =>
      cases h2 : (decide (0 ≤ b) && decide (b < (g.length : Int))) with
      | false => simp [ints]
      | true =>
        have h1' : 0 ≤ a ∧ a < (g.length : Int) := by simpa using h1
        have h2' : 0 ≤ b ∧ b < (g.length : Int) := by simpa using h2
        have h40 := gOk_len h3
        have gx : ∀ (z : Int), 0 ≤ z → z < (g.length : Int) → ∀ u : Nat, u < g.length → (setL g [z])[u]? = some ((clo g z.toNat).testBit u) := fun z hz0 hz1 u hu => by
          have e := setL_get h3 [z] u
          rw [List.getD_eq_getElem?_getD, List.getElem?_eq_getElem (by rw [setL_len]; exact hu), Option.getD_some] at e
          rw [List.getElem?_eq_getElem (by rw [setL_len]; exact hu), Option.some.injEq, Bool.eq_iff_iff, e]
          constructor
          · rintro ⟨x, hx, _, _, h⟩
            rw [List.mem_singleton.1 hx] at h
            exact h
          · intro h
            exact ⟨z, by simp, hz0, hz1, h⟩
        rw [l05Set_eq h3 (by simp), l05Set_eq h3 (by simp)]
        simp only [Bool.and_self, Bool.not_true, Bool.false_eq_true, if_false, Option.bind_some, if_true]
        have := loopM_at (body := fun (s' : Int × (List Int)) => spec_Commons_l1 g (setL g [a]) (setL g [b]) s'.1 s'.2) (r := ints (bitsL (clo g a.toNat &&& clo g b.toNat) g.length)) (fun k => ((k : Int), ints (bitsL (clo g a.toNat &&& clo g b.toNat) k))) g.length (fun k hk => by
          show spec_Commons_l1 g (setL g [a]) (setL g [b]) k (ints (bitsL (clo g a.toNat &&& clo g b.toNat) k)) = _
          unfold spec_Commons_l1
          have hlen := bitsL_len (clo g a.toNat &&& clo g b.toNat) k
          rw [ifT (by simpa using hk), geti_nat, gx a h1'.1 h1'.2 k hk, Option.bind_some, geti_nat, gx b h2'.1 h2'.2 k hk, Option.bind_some, appn_in (by simp [ints_len]; omega), Option.bind_some, wk64 (by omega) (by omega), bitsL_succ, Nat.testBit_and]
          cases (clo g a.toNat).testBit k
          · simp
          · cases (clo g b.toNat).testBit k
            · simp
            · simp [ints_snoc]) (by
          show spec_Commons_l1 g (setL g [a]) (setL g [b]) g.length (ints (bitsL (clo g a.toNat &&& clo g b.toNat) g.length)) = _
          unfold spec_Commons_l1
          rw [ifF (by simp)])
        have e0 : ((0 : Int), ([] : List Int)) = (((0 : Nat) : Int), ints (bitsL (clo g a.toNat &&& clo g b.toNat) 0)) := rfl
        rw [e0, this, Option.bind_some]
        unfold spec_Commons_j1
        -- beyond the graph there is nothing
        have e : (List.range 64) = List.range g.length ++ (List.range (64 - g.length)).map (g.length + ·) := by
          rw [← List.range_add]
          congr 1
          omega
        have : bitsL (clo g a.toNat &&& clo g b.toNat) 64 = bitsL (clo g a.toNat &&& clo g b.toNat) g.length := by
          unfold bitsL
          rw [e, List.filter_append]
          rw [List.append_right_eq_self, List.filter_eq_nil_iff]
          intro v hv
          obtain ⟨k, _, rfl⟩ := List.mem_map.1 hv
          intro q
          rw [Nat.testBit_and, Bool.and_eq_true] at q
          have := clo_le h3 (v := a.toNat) (by omega) q.1
          omega
        rw [this]
theorem commL_len (g : List (List Int)) (a b : Int) : (ints (commL g a b)).length ≤ 64 := by
  rw [ints_len]
  unfold commL
  split
  · exact bitsL_len _ _
  · simp
theorem fnExactCommons_true {g : List (List Int)} {a b : Int} (h : g.length ≤ 1000000000000000) (hp : ∀ p ∈ g, p.length ≤ 1000000000000000) : laws_FnExactCommons g a b = some true := by
  unfold laws_FnExactCommons
  rw [szIntSS_eq h hp (by omega) (by omega), Option.bind_some]
  by_cases q : (wII g : Int) ≤ 1048576
  · rw [if_pos q, ifF (by simp; omega)]
    have hg : g.length ≤ 10000000 := by unfold wII at q; omega
    have hc := commL_len g a b
    simp only [toIntSS_eq (a := g) (by omega), commonsS_eq hg, commonsI_eq hg, Option.bind_some, eqIntS_refl (a := ints (commL g a b)) (by omega), eqIntSS_refl (a := g) (by omega),
      markIntSS_eq (a := g) (k := 1) (by omega) (by omega), markIntS_eq (a := ints (commL g a b)) (k := 1) (by omega) (by omega), heldIntS_eq (a := ints (commL g a b)) (k := 1) (by omega) (by omega), Bool.not_true, Bool.false_eq_true, if_false]
    rw [ifF (by simp; omega)]
    simp only [Option.bind_some, Bool.false_eq_true, if_false, bne_self_eq_false]
    rw [ifF (by simp; omega)]
    rw [ifF (by simp; omega)]
  · rw [if_neg q, ifT (by simp)]
end Go.TV.F
/- Plain Lean: draws of right graphs; the laws over them. -/
namespace Go.TV.F
open Go.TV

/-! ### Draws -/
theorem and255 (x : Int) : 0 ≤ bits .and .i64 x 255 ∧ bits .and .i64 x 255 ≤ 255 := by
  have h : (BitVec.ofInt 64 x &&& BitVec.ofInt 64 255).toNat ≤ 255 := by
    rw [BitVec.toNat_and, show (BitVec.ofInt 64 255).toNat = 255 from rfl]
    exact Nat.and_le_right
  have e : bits .and .i64 x 255 = wk .i64 ((BitVec.ofInt 64 x &&& BitVec.ofInt 64 255).toNat : Int) := rfl
  rw [e, wk64 (by omega) (by omega)]
  omega
/-- A cursor over the bytes b. -/
def CurOk (b : List Int) (c : T_spec_l01Cur) : Prop := c.b = b ∧ 0 ≤ c.i ∧ c.i ≤ b.length
theorem l01Byte_ok {b : List Int} {c : T_spec_l01Cur} (hb : b.length ≤ 1000000000) (h : CurOk b c) : ∃ x c', spec_l01Byte c = some (x, c') ∧ 0 ≤ x ∧ x ≤ 255 ∧ CurOk b c' := by
  obtain ⟨rfl, h1, h2⟩ := h
  unfold spec_l01Byte
  by_cases q : c.i < (c.b.length : Int)
  · rw [ifT (by simpa using q), geti_in h1 q, Option.bind_some]
    refine ⟨_, _, rfl, (and255 _).1, (and255 _).2, rfl, ?_, ?_⟩
    · show 0 ≤ wk .i64 (c.i + 1)
      rw [wk64 (by omega) (by omega)]
      omega
    · show wk .i64 (c.i + 1) ≤ _
      rw [wk64 (by omega) (by omega)]
      omega
  · rw [ifF (by simpa using q)]
    exact ⟨_, _, rfl, (and255 _).1, (and255 _).2, rfl, h1, h2⟩
theorem tmod_range {x n : Int} (h0 : 0 ≤ x) (hn : 0 < n) : 0 ≤ x.tmod n ∧ x.tmod n < n := by
  rw [Int.tmod_eq_emod_of_nonneg h0]
  exact ⟨Int.emod_nonneg _ (by omega), Int.emod_lt_of_pos _ hn⟩
theorem l01Below_ok {b : List Int} {c : T_spec_l01Cur} {n : Int} (hb : b.length ≤ 1000000000) (h : CurOk b c) (hn : n ≤ 256) : ∃ x c', spec_l01Below c n = some (x, c') ∧ 0 ≤ x ∧ (0 < n → x < n) ∧ (n ≤ 0 → x = 0) ∧ CurOk b c' := by
  unfold spec_l01Below
  by_cases q : n ≤ 0
  · rw [ifT (by simpa using q)]
    exact ⟨0, _, rfl, by omega, by omega, fun _ => rfl, h⟩
  · rw [ifF (by simpa using q), ifT (by simpa using hn)]
    obtain ⟨x, c', h1, h2, h3, h4⟩ := l01Byte_ok hb h
    rw [show (T_spec_l01Cur.mk c.b c.i c.h) = c from rfl, h1, Option.bind_some, chk_in (by omega), Option.bind_some]
    have := tmod_range h2 (n := n) (by omega)
    exact ⟨_, _, rfl, this.1, fun _ => this.2, fun h => absurd h q, h4⟩
theorem l01Once_ok {b : List Int} {c : T_spec_l01Cur} {n : Int} (hb : b.length ≤ 1000000000) (h : CurOk b c) (hn : n ≤ 256) : ∃ x c', spec_l01Once c n = some (x, c') ∧ CurOk b c' := by
  unfold spec_l01Once
  obtain ⟨x, c', h1, _, _, _, h4⟩ := l01Below_ok hb h hn
  rw [show (T_spec_l01Cur.mk c.b c.i c.h) = c from rfl, h1, Option.bind_some]
  exact ⟨_, _, rfl, h4⟩
theorem l01New_ok {b : List Int} (hb : b.length ≤ 1000000000) : ∃ c, spec_l01New b = some c ∧ CurOk b c := by
  unfold spec_l01New
  obtain ⟨h, h1, _⟩ := loopM_total (body := fun (s' : Int × Int) => spec_l01New_l1 b s'.1 s'.2) (fun s => 0 ≤ s.2 ∧ s.2 ≤ b.length) (fun s => (b.length - s.2).toNat) (fun _ => True) (s := ((wk .i64 (73073 + (b.length : Int))), 0)) ⟨by simp, by simp⟩ (fun s hs => by
    obtain ⟨h, i⟩ := s
    have hs : 0 ≤ i ∧ i ≤ (b.length : Int) := hs
    show (∃ s', spec_l01New_l1 b h i = _ ∧ _) ∨ ∃ r, spec_l01New_l1 b h i = _ ∧ _
    unfold spec_l01New_l1
    by_cases q : i < (b.length : Int)
    · by_cases q2 : i < 4000
      · rw [ifT (by simpa using q), Option.bind_some, ifT (by simpa using q2), geti_in hs.1 q, Option.bind_some, wk64 (x := i + 1) (by omega) (by omega)]
        exact .inl ⟨_, rfl, ⟨by show 0 ≤ i + 1; omega, by show i + 1 ≤ _; omega⟩, by show ((b.length : Int) - (i + 1)).toNat < ((b.length : Int) - i).toNat; omega⟩
      · rw [ifT (by simpa using q), Option.bind_some, ifF (by simpa using q2)]
        exact .inr ⟨_, rfl, trivial⟩
    · rw [ifF (by simpa using q), Option.bind_some]
      exact .inr ⟨_, rfl, trivial⟩)
  rw [h1, Option.bind_some]
  exact ⟨_, rfl, rfl, by show (0 : Int) ≤ 0; omega, by show (0 : Int) ≤ _; omega⟩
/-- A row of parents that is right. -/
def rowOk (l : List Int) (n : Int) : Prop := l.length ≤ 4 ∧ rise l n = true
theorem rise_nil (n : Int) : rise [] n = true := rfl
theorem rise_snoc {l : List Int} {n v : Int} (h : rise l v = true) (h0 : 0 ≤ v) (hv : v < n) : rise (l ++ [v]) n = true := by
  unfold rise
  rw [List.all_eq_true]
  intro i hi
  have hi := List.mem_range.1 hi
  simp only [List.length_append, List.length_singleton] at hi
  by_cases q : i < l.length
  · have := List.all_eq_true.1 h i (List.mem_range.2 q)
    have e1 : (l ++ [v]).getD i 0 = l.getD i 0 := by simp [List.getD_eq_getElem?_getD, List.getElem?_append_left q]
    have e2 : (l ++ [v]).getD (i - 1) 0 = l.getD (i - 1) 0 := by simp [List.getD_eq_getElem?_getD, List.getElem?_append_left (show i - 1 < l.length by omega)]
    simp only [riseAt, e1, e2, Bool.and_eq_true, decide_eq_true_eq] at this ⊢
    exact ⟨⟨this.1.1, by omega⟩, this.2⟩
  · have hi' : i = l.length := by omega
    have e1 : (l ++ [v]).getD i 0 = v := by simp [hi']
    simp only [riseAt, e1, Bool.and_eq_true, decide_eq_true_eq]
    refine ⟨⟨h0, by omega⟩, ?_⟩
    rcases Nat.eq_zero_or_pos i with q0 | q0
    · simp [q0]
    · have hm : (l ++ [v]).getD (i - 1) 0 = l[i - 1]'(by omega) := by simp [List.getD_eq_getElem?_getD, List.getElem?_append_left (show i - 1 < l.length by omega), show i - 1 < l.length by omega]
      have := rise_mem h (List.getElem_mem (show i - 1 < l.length by omega))
      rw [hm]
      simp
      right
      omega
theorem rise_mono {l : List Int} {n m : Int} (h : rise l n = true) (hm : n ≤ m) : rise l m = true := by
  unfold rise at h ⊢
  rw [List.all_eq_true] at h ⊢
  intro i hi
  have := h i hi
  simp only [riseAt, Bool.and_eq_true, decide_eq_true_eq] at this ⊢
  exact ⟨⟨this.1.1, by omega⟩, this.2⟩
theorem l05Parents_ok {b : List Int} {c : T_spec_l01Cur} {n : Int} (hb : b.length ≤ 1000000000) (h : CurOk b c) (h0 : 0 ≤ n) (hn : n ≤ 100) : ∃ l c', spec_l05Parents c n = some (l, c') ∧ rowOk l n ∧ CurOk b c' := by
  unfold spec_l05Parents
  obtain ⟨r, h1, h2⟩ := loopM_total (body := fun (s' : Int × (List Int) × Int × Int × (List Int)) => spec_l05Parents_l1 n s'.1 s'.2.1 s'.2.2.1 s'.2.2.2.1 s'.2.2.2.2)
    (fun s => 0 ≤ s.1 ∧ s.1 ≤ n ∧ CurOk b ⟨s.2.1, s.2.2.1, s.2.2.2.1⟩ ∧ s.2.2.2.2.length ≤ 4 ∧ rise s.2.2.2.2 s.1 = true) (fun s => (n - s.1).toNat) (fun r => CurOk b ⟨r.1, r.2.1, r.2.2.1⟩ ∧ rowOk r.2.2.2 n)
    (s := (0, c.b, c.i, c.h, [])) ⟨by simp, by simpa using h0, h, by simp, rfl⟩ (fun s hs => by
    obtain ⟨v, cb, ci, ch, out⟩ := s
    obtain ⟨hv0, hvn, hc, hl, hr⟩ := hs
    simp only at hv0 hvn hc hl hr
    show (∃ s', spec_l05Parents_l1 n v cb ci ch out = _ ∧ _) ∨ ∃ r, spec_l05Parents_l1 n v cb ci ch out = _ ∧ _
    unfold spec_l05Parents_l1
    by_cases q : v < n
    · rw [ifT (by simpa using q)]
      -- the draws come to some answer and some cursor
      have draws : ∃ (ok : Bool) (cb' : List Int) (ci' ch' : Int), (if (decide ((out.length : Int) < 4)) then (if (v == (wk .i64 (n - 1))) then (spec_l01Once (T_spec_l01Cur.mk cb ci ch) 4).bind fun x23 => some ((!x23.1), x23.2.b, x23.2.i, x23.2.h) else some (false, cb, ci, ch)).bind fun b_1 => (if b_1.1 then some (true, b_1.2.1, b_1.2.2.1, b_1.2.2.2) else (spec_l01Once (T_spec_l01Cur.mk b_1.2.1 b_1.2.2.1 b_1.2.2.2) (wk .i64 (n + 2))).bind fun x30 => some (x30.1, x30.2.b, x30.2.i, x30.2.h)).bind fun b_2 => some (b_2.1, b_2.2.1, b_2.2.2.1, b_2.2.2.2) else some (false, cb, ci, ch)) = some (ok, cb', ci', ch') ∧ CurOk b ⟨cb', ci', ch'⟩ ∧ (ok = true → out.length < 4) := by
        by_cases q4 : out.length < 4
        · rw [ifT (by simp; omega)]
          have first : ∃ (ok : Bool) (cb' : List Int) (ci' ch' : Int), (if (v == (wk .i64 (n - 1))) then (spec_l01Once (T_spec_l01Cur.mk cb ci ch) 4).bind fun x23 => some ((!x23.1), x23.2.b, x23.2.i, x23.2.h) else some (false, cb, ci, ch)) = some (ok, cb', ci', ch') ∧ CurOk b ⟨cb', ci', ch'⟩ := by
            by_cases qv : (v == (wk .i64 (n - 1))) = true
            · rw [if_pos qv]
              obtain ⟨x, c', g1, g2⟩ := l01Once_ok (n := 4) hb hc (by omega)
              rw [g1]
              exact ⟨_, _, _, _, rfl, g2⟩
            · rw [if_neg qv]
              exact ⟨_, _, _, _, rfl, hc⟩
          obtain ⟨ok, cb', ci', ch', g1, g2⟩ := first
          rw [g1, Option.bind_some]
          cases ok with
          | true => exact ⟨_, _, _, _, rfl, g2, fun _ => q4⟩
          | false =>
            obtain ⟨x, c', g3, g4⟩ := l01Once_ok (n := n + 2) hb g2 (by omega)
            rw [wk64 (by omega) (by omega)]
            simp only [Bool.false_eq_true, if_false]
            rw [g3]
            exact ⟨_, _, _, _, rfl, g4, fun _ => q4⟩
        · rw [ifF (by simp; omega)]
          exact ⟨_, _, _, _, rfl, hc, fun z => by cases z⟩
      obtain ⟨ok, cb', ci', ch', g1, g2, g3⟩ := draws
      rw [g1, Option.bind_some, wk64 (x := v + 1) (by omega) (by omega)]
      cases ok with
      | true =>
        simp only [if_true]
        rw [appn_in (by simp; omega), Option.bind_some]
        refine .inl ⟨_, rfl, ⟨by show 0 ≤ v + 1; omega, by show v + 1 ≤ n; omega, g2, ?_, ?_⟩, by show (n - (v + 1)).toNat < (n - v).toNat; omega⟩
        · have := g3 rfl
          simp
          omega
        · exact rise_snoc hr hv0 (by omega)
      | false =>
        simp only [Bool.false_eq_true, if_false]
        refine .inl ⟨_, rfl, ⟨by show 0 ≤ v + 1; omega, by show v + 1 ≤ n; omega, g2, hl, rise_mono hr (by omega)⟩, by show (n - (v + 1)).toNat < (n - v).toNat; omega⟩
    · rw [ifF (by simpa using q)]
      exact .inr ⟨_, rfl, hc, hl, rise_mono hr hvn⟩)
  rw [h1, Option.bind_some]
  exact ⟨_, _, rfl, h2.2, h2.1⟩
/-- What DrawRightGraph gives is a right graph, with one version at least, and twelve at most. -/
theorem drawRightGraph_ok {b : List Int} (hb : b.length ≤ 1000000000) : ∃ g, spec_DrawRightGraph b = some g ∧ gOk g = true ∧ 0 < g.length ∧ g.length ≤ 12 := by
  unfold spec_DrawRightGraph
  obtain ⟨c, h1, hc⟩ := l01New_ok hb
  rw [h1, Option.bind_some]
  obtain ⟨r, h2, h3⟩ := loopM_total (body := fun (s' : Int × (List Int) × Int × Int × (List (List Int))) => spec_DrawRightGraph_l1 s'.1 s'.2.1 s'.2.2.1 s'.2.2.2.1 s'.2.2.2.2)
    (fun s => s.1 = s.2.2.2.2.length ∧ s.2.2.2.2.length ≤ 12 ∧ CurOk b ⟨s.2.1, s.2.2.1, s.2.2.2.1⟩ ∧ ∀ (k : Nat) (p : List Int), s.2.2.2.2[k]? = some p → rowOk p k) (fun s => 12 - s.2.2.2.2.length)
    (fun g => 0 < g.length ∧ g.length ≤ 12 ∧ ∀ (k : Nat) (p : List Int), g[k]? = some p → rowOk p k) (s := (0, c.b, c.i, c.h, [])) ⟨rfl, by simp, hc, fun k p hp => by simp at hp⟩ (fun s hs => by
    obtain ⟨v, cb, ci, ch, out⟩ := s
    obtain ⟨hv, hl, hc, hr⟩ := hs
    simp only at hv hl hc hr
    subst hv
    show (∃ s', spec_DrawRightGraph_l1 _ cb ci ch out = _ ∧ _) ∨ ∃ r, spec_DrawRightGraph_l1 _ cb ci ch out = _ ∧ _
    unfold spec_DrawRightGraph_l1
    obtain ⟨x, c', g1, g2, g3, _, g4⟩ := l01Below_ok (n := 12) hb hc (by omega)
    have g3 := g3 (by omega)
    rw [g1, Option.bind_some, wk64 (x := 1 + x) (by omega) (by omega)]
    by_cases q : (out.length : Int) < 1 + x
    · rw [ifT (by simpa using q)]
      obtain ⟨p, c2, g5, g6, g7⟩ := l05Parents_ok (n := out.length) hb g4 (by omega) (by omega)
      rw [show (T_spec_l01Cur.mk c'.b c'.i c'.h) = c' from rfl, g5, Option.bind_some, appn_in (by simp; omega), Option.bind_some, wk64 (by omega) (by omega)]
      refine .inl ⟨_, rfl, ⟨by simp, by simp; omega, g7, fun k p' hp => ?_⟩, by simp; omega⟩
      have hp : (out ++ [p])[k]? = some p' := hp
      by_cases qk : k < out.length
      · rw [List.getElem?_append_left qk] at hp
        exact hr k p' hp
      · by_cases qk2 : k = out.length
        · subst qk2
          rw [List.getElem?_append_right (Nat.le_refl _), Nat.sub_self] at hp
          injection hp with hp
          subst hp
          exact g6
        · rw [List.getElem?_eq_none (by simp; omega)] at hp
          cases hp
    · rw [ifF (by simpa using q)]
      exact .inr ⟨_, rfl, by omega, hl, hr⟩)
  rw [h2, Option.bind_some]
  refine ⟨r, rfl, ?_, h3.1, h3.2.1⟩
  simp only [gOk, Bool.and_eq_true, decide_eq_true_eq]
  refine ⟨by omega, List.all_eq_true.2 fun v hv => ?_⟩
  have hv := List.mem_range.1 hv
  have := h3.2.2 v r[v] (List.getElem?_eq_getElem hv)
  rw [gAt_nat hv, this.2]
  simp [this.1]
theorem big_eq {b : List Int} : laws_big b = some (decide ((b.length : Int) > 1048576)) := rfl

/-! ### within -/
theorem within_eq {l : List Int} {x : Int} (hl : l.length ≤ 1000000000) : laws_within l x = some (decide (x ∈ l)) := by
  unfold laws_within
  have := loopM_all (body := fun s' => laws_within_l1 l x s') (good := .inr ()) (bad := .inl true) (fun k => (k : Int)) l.length (fun i => !(l.getD i 0 == x)) (fun k hk _ hp => by
    show laws_within_l1 l x k = _
    have e : l.getD k 0 = l[k] := by simp [hk]
    rw [e] at hp
    unfold laws_within_l1
    rw [ifT (by simpa using hk), geti_nat, List.getElem?_eq_getElem hk, Option.bind_some, ifF (by simpa using hp), wk64 (by omega) (by omega)]
    rfl) (fun k hk _ hp => by
    show laws_within_l1 l x k = _
    have e : l.getD k 0 = l[k] := by simp [hk]
    rw [e] at hp
    unfold laws_within_l1
    rw [ifT (by simpa using hk), geti_nat, List.getElem?_eq_getElem hk, Option.bind_some, ifT (by simpa using hp)]) (fun _ => by
    show laws_within_l1 l x l.length = _
    unfold laws_within_l1
    rw [ifF (by simp)])
  rw [show (0 : Int) = ((0 : Nat) : Int) from rfl, this, Option.bind_some]
  by_cases h : x ∈ l
  · obtain ⟨i, hi, rfl⟩ := List.getElem_of_mem h
    rw [if_neg]
    · simp [h]
    · intro q
      have := List.all_eq_true.1 q i (List.mem_range.2 hi)
      simp [hi] at this
  · rw [if_pos]
    · simp [h, laws_within_j1]
    · rw [List.all_eq_true]
      intro i hi
      have hi := List.mem_range.1 hi
      have e : l.getD i 0 = l[i] := by simp [hi]
      rw [e]
      have : l[i] ≠ x := fun q => h (q ▸ List.getElem_mem hi)
      simp [this]
theorem mem_bits {s n : Nat} {x : Int} : x ∈ ints (bitsL s n) ↔ ∃ u : Nat, x = u ∧ u < n ∧ s.testBit u = true := by
  simp only [ints, bitsL, List.mem_map, List.mem_filter, List.mem_range]
  constructor
  · rintro ⟨u, ⟨h1, h2⟩, h3⟩
    exact ⟨u, h3.symm, h1, h2⟩
  · rintro ⟨u, h1, h2, h3⟩
    exact ⟨u, ⟨h2, h3⟩, h1.symm⟩
theorem closI_in {g : List (List Int)} (hg : gOk g = true) {v : Nat} (hv : v < g.length) : closI g v = bitsL (clo g v) 64 := by
  unfold closI
  rw [if_pos]
  · rw [Int.toNat_natCast]
  · rw [hg]
    simp
    exact hv
theorem mem_clos {g : List (List Int)} (hg : gOk g = true) {v : Nat} (hv : v < g.length) {x : Int} : x ∈ ints (closI g v) ↔ ∃ u : Nat, x = u ∧ (clo g v).testBit u = true := by
  rw [closI_in hg hv, mem_bits]
  have := gOk_len hg
  constructor
  · rintro ⟨u, h1, _, h3⟩
    exact ⟨u, h1, h3⟩
  · rintro ⟨u, h1, h3⟩
    have := clo_le hg hv h3
    exact ⟨u, h1, by omega, h3⟩
theorem isAncestorI_eq {g : List (List Int)} (hg : gOk g = true) {u v : Nat} (hu : u < g.length) (hv : v < g.length) : impl_IsAncestor g u v = some ((clo g v).testBit u) := by
  have h40 := gOk_len hg
  unfold impl_IsAncestor
  rw [isPlace_eq (by omega) (by omega), Option.bind_some, isPlace_eq (by omega) (by omega), Option.bind_some, graphOkI_eq (by omega), Option.bind_some, hg]
  have e1 : (decide (0 ≤ (u : Int)) && decide ((u : Int) < (g.length : Int))) = true := by simp; exact hu
  have e2 : (decide (0 ≤ (v : Int)) && decide ((v : Int) < (g.length : Int))) = true := by simp; exact hv
  rw [e1, e2, closures_eq hg]
  simp only [Bool.not_true, Bool.false_eq_true, if_false, Option.bind_some]
  rw [clo_get (by omega) (by omega), Option.bind_some, Int.toNat_natCast, setHas_eq (clo_lt hg _), Option.bind_some]
  have e3 : (decide (0 ≤ (u : Int)) && decide ((u : Int) ≤ 63)) = true := by simp; omega
  rw [e3, Bool.true_and, Int.toNat_natCast]
end Go.TV.F
/- Plain Lean: the law FnClosures. -/
namespace Go.TV.F
open Go.TV

theorem clo_trans {g : List (List Int)} (hg : gOk g = true) : ∀ {v : Nat}, v < g.length → ∀ {u w : Nat}, (clo g v).testBit u = true → (clo g u).testBit w = true → (clo g v).testBit w = true := by
  intro v
  induction v using Nat.strongRecOn with
  | _ v ih =>
    intro hv u w h1 h2
    rw [clo_test hg hv] at h1
    simp only [Bool.or_eq_true, decide_eq_true_eq, List.any_eq_true] at h1
    rcases h1 with h1 | ⟨p, hp, h1⟩
    · rw [h1] at h2
      exact h2
    · have hp' := gOk_mem hg hv hp
      have := ih p.toNat (by omega) (by omega) h1 h2
      rw [clo_test hg hv]
      simp only [Bool.or_eq_true, List.any_eq_true]
      exact .inr ⟨p, hp, this⟩
theorem clo_parent {g : List (List Int)} (hg : gOk g = true) {v : Nat} (hv : v < g.length) {p : Int} (hp : p ∈ g[v]) : (clo g v).testBit p.toNat = true := by
  have hp' := gOk_mem hg hv hp
  rw [clo_test hg hv]
  simp only [Bool.or_eq_true, List.any_eq_true]
  exact .inr ⟨p, hp, clo_self hg (by omega)⟩
theorem bits_last {s v n : Nat} (hv : v < n) (h1 : s.testBit v = true) (h2 : ∀ u, s.testBit u = true → u ≤ v) : bitsL s n = bitsL s v ++ [v] := by
  have e : (List.range n) = List.range (v + 1) ++ (List.range (n - (v + 1))).map (v + 1 + ·) := by
    rw [← List.range_add]
    congr 1
    omega
  have : bitsL s n = bitsL s (v + 1) := by
    unfold bitsL
    rw [e, List.filter_append, List.append_right_eq_self, List.filter_eq_nil_iff]
    intro w hw
    obtain ⟨k, _, rfl⟩ := List.mem_map.1 hw
    intro q
    have := h2 _ q
    omega
  rw [this, bitsL_succ, if_pos h1]
theorem closI_last {g : List (List Int)} (hg : gOk g = true) {v : Nat} (hv : v < g.length) : ints (closI g v) = ints (bitsL (clo g v) v) ++ [(v : Int)] := by
  have := gOk_len hg
  rw [closI_in hg hv, bits_last (by omega) (clo_self hg hv) (fun u hu => clo_le hg hv hu), ints_snoc]
theorem properUV_eq {g : List (List Int)} (hg : gOk g = true) {u v : Nat} (hu : u < g.length) (hv : v < g.length) : impl_ProperOf g [(u : Int), (v : Int)] = some (ints (bitsL (clo g u ||| clo g v) 64)) := by
  have := gOk_len hg
  rw [properOfI_eq (by omega) (by simp)]
  unfold propL
  rw [if_pos]
  · have : orL (closN g g.length) [(u : Int), (v : Int)] = clo g u ||| clo g v := by simp [orL, clo]
    rw [this]
  · rw [hg]
    have hA : allIn g [(u : Int), (v : Int)] = true := by
      unfold allIn
      rw [List.all_eq_true]
      intro i hi
      have hi := List.mem_range.1 hi
      match i, hi with
      | 0, _ => simp; exact hu
      | 1, _ => simp; exact hv
    rw [hA]
    rfl
theorem fnClosures_graph {g : List (List Int)} (hg : gOk g = true) (v : Nat) (hv : v < g.length) : laws_FnClosures_l1 g v = some (.inl ((v + 1 : Nat) : Int)) := by
  have h40 := gOk_len hg
  unfold laws_FnClosures_l1
  rw [ifT (by simpa using hv), closureOfI_eq (by omega), Option.bind_some]
  have hlast := closI_last hg hv
  have hlen := closI_len g v
  have hl1 : (ints (closI g v)).length = (ints (bitsL (clo g v) v)).length + 1 := by rw [hlast]; simp
  have hget : geti (ints (closI g v)) (wk .i64 (((ints (closI g v)).length : Int) - 1)) = some (v : Int) := by
    rw [wk64 (by omega) (by omega), show ((ints (closI g v)).length : Int) - 1 = ((ints (bitsL (clo g v) v)).length : Int) by omega, geti_nat, hlast, List.getElem?_append_right (Nat.le_refl _), Nat.sub_self]
    rfl
  rw [ifF (by rw [beq_eq_false_iff_ne]; omega), hget, Option.bind_some, Option.bind_some, ifF (by simp)]
  -- each closure has the closures of all it has
  have h4 : loopM (fun (s' : Int) => laws_FnClosures_l4 g (ints (closI g v)) s') 0 = some (.inr ()) := by
    refine eq_loop (ints (closI g v)).length (fun i hi => ?_) ?_
    · unfold laws_FnClosures_l4
      rw [ifT (by simpa using hi)]
      obtain ⟨u, eu, hu⟩ := (mem_clos hg hv).1 (List.getElem_mem hi)
      have hul := clo_le hg hv hu
      have hgi : geti (ints (closI g v)) i = some (u : Int) := by rw [geti_nat, List.getElem?_eq_getElem hi, eu]
      have hgu : geti g (u : Int) = some (g[u]'(by omega)) := by rw [geti_nat, List.getElem?_eq_getElem]
      have h5 : loopM (fun (s' : Int) => laws_FnClosures_l5 g (ints (closI g v)) i s') 0 = some (.inr ()) := by
        refine eq_loop (g[u]'(by omega)).length (fun k hk => ?_) ?_
        · unfold laws_FnClosures_l5
          have hmem := List.getElem_mem hk
          have hp := gOk_mem hg (v := u) (by omega) hmem
          have hin : (g[u]'(by omega))[k] ∈ ints (closI g v) := by
            rw [mem_clos hg hv]
            exact ⟨((g[u]'(by omega))[k]).toNat, by omega, clo_trans hg hv hu (clo_parent hg (by omega) hmem)⟩
          have h4' := (gOk_at hg (v := u) (by omega)).1
          simp only [hgi, hgu, Option.bind_some]
          rw [ifT (by simpa using hk), geti_nat, List.getElem?_eq_getElem hk, Option.bind_some, within_eq (by omega), Option.bind_some]
          rw [ifF (by simpa using hin), wk64 (by omega) (by omega)]
          rfl
        · unfold laws_FnClosures_l5
          rw [hgi, Option.bind_some, hgu, Option.bind_some, ifF (by simp)]
      rw [h5, Option.bind_some]
      unfold laws_FnClosures_j5
      rw [wk64 (by omega) (by omega)]
      rfl
    · unfold laws_FnClosures_l4
      rw [ifF (by simp)]
  rw [h4, Option.bind_some]
  show laws_FnClosures_j3 g v (ints (closI g v)) = _
  unfold laws_FnClosures_j3
  have h2 : loopM (fun (s' : Int) => laws_FnClosures_l2 g v (ints (closI g v)) s') 0 = some (.inr ()) := by
    refine eq_loop g.length (fun u hu => ?_) ?_
    · unfold laws_FnClosures_l2
      have hw : decide ((u : Int) ∈ ints (closI g v)) = (clo g v).testBit u := by
        rw [Bool.eq_iff_iff, decide_eq_true_eq, mem_clos hg hv]
        constructor
        · rintro ⟨w, h1, h2⟩
          rw [show u = w by omega]
          exact h2
        · intro h
          exact ⟨u, rfl, h⟩
      have hlen2 := closI_len g u
      rw [ifT (by simpa using hu), isAncestorI_eq hg hu hv, Option.bind_some, within_eq (by omega), Option.bind_some, hw, ifF (by simp), properUV_eq hg hu hv, Option.bind_some, closureOfI_eq (by omega), Option.bind_some]
      have h3 : loopM (fun (s' : Int) => laws_FnClosures_l3 g (ints (closI g v)) (ints (bitsL (clo g u ||| clo g v) 64)) (ints (closI g u)) s') 0 = some (.inr ()) := by
        refine eq_loop g.length (fun x hx => ?_) ?_
        · unfold laws_FnClosures_l3
          have hlen3 := bitsL_len (clo g u ||| clo g v) 64
          have e1 : decide ((x : Int) ∈ ints (bitsL (clo g u ||| clo g v) 64)) = ((clo g u).testBit x || (clo g v).testBit x) := by
            rw [Bool.eq_iff_iff, decide_eq_true_eq, mem_bits]
            constructor
            · rintro ⟨w, h1, _, h2⟩
              rw [show x = w by omega, ← Nat.testBit_or]
              exact h2
            · intro h
              rw [← Nat.testBit_or] at h
              exact ⟨x, rfl, by omega, h⟩
          have e2 : decide ((x : Int) ∈ ints (closI g v)) = (clo g v).testBit x := by
            rw [Bool.eq_iff_iff, decide_eq_true_eq, mem_clos hg hv]
            constructor
            · rintro ⟨w, h1, h2⟩
              rw [show x = w by omega]
              exact h2
            · intro h
              exact ⟨x, rfl, h⟩
          have e3 : decide ((x : Int) ∈ ints (closI g u)) = (clo g u).testBit x := by
            rw [Bool.eq_iff_iff, decide_eq_true_eq, mem_clos hg hu]
            constructor
            · rintro ⟨w, h1, h2⟩
              rw [show x = w by omega]
              exact h2
            · intro h
              exact ⟨x, rfl, h⟩
          rw [ifT (by simpa using hx), within_eq (by rw [ints_len]; omega), Option.bind_some, within_eq (by omega), Option.bind_some, within_eq (by omega), Option.bind_some, e1, e2, e3, wk64 (by omega) (by omega)]
          cases (clo g u).testBit x <;> cases (clo g v).testBit x <;> rfl
        · unfold laws_FnClosures_l3
          rw [ifF (by simp)]
      rw [h3, Option.bind_some]
      show laws_FnClosures_j4 u = _
      unfold laws_FnClosures_j4
      rw [wk64 (by omega) (by omega)]
      rfl
    · unfold laws_FnClosures_l2
      rw [ifF (by simp)]
  rw [h2, Option.bind_some]
  show laws_FnClosures_j2 v = _
  unfold laws_FnClosures_j2
  rw [wk64 (by omega) (by omega)]
  rfl
theorem fnClosures_true {code : List Int} (h : code.length ≤ 1000000000000000) : laws_FnClosures code = some true := by
  unfold laws_FnClosures
  rw [big_eq, Option.bind_some]
  by_cases q : (code.length : Int) > 1048576
  · rw [ifT (by simpa using q)]
  · rw [ifF (by simpa using q)]
    obtain ⟨g, h1, hg, h2, h3⟩ := drawRightGraph_ok (b := code) (by omega)
    rw [h1, Option.bind_some]
    have : loopM (fun (s' : Int) => laws_FnClosures_l1 g s') 0 = some (.inr ()) := eq_loop g.length (fun v hv => fnClosures_graph hg v hv) (by
      unfold laws_FnClosures_l1
      rw [ifF (by simp)])
    rw [this, Option.bind_some]
    show laws_FnClosures_j1 g = _
    unfold laws_FnClosures_j1
    rw [graphOkI_eq (by omega), hg]
    rfl
end Go.TV.F
/- Plain Lean: the law FnTips. -/
namespace Go.TV.F
open Go.TV

/-! ### Tips -/
def bitOf (l : List Int) : Nat := l.foldl (fun (s : Nat) (x : Int) => if 0 ≤ x ∧ x ≤ 63 then s ||| 2 ^ x.toNat else s) 0
theorem bitOf_snoc (l : List Int) (x : Int) : bitOf (l ++ [x]) = if 0 ≤ x ∧ x ≤ 63 then bitOf l ||| 2 ^ x.toNat else bitOf l := by
  unfold bitOf
  rw [List.foldl_append]
  rfl
theorem bitOf_take {l : List Int} {i : Nat} (hi : i < l.length) : bitOf (l.take (i + 1)) = if 0 ≤ l[i] ∧ l[i] ≤ 63 then bitOf (l.take i) ||| 2 ^ l[i].toNat else bitOf (l.take i) := by
  rw [List.take_succ_eq_append_getElem hi, bitOf_snoc]
theorem bitOf_all (l : List Int) : bitOf l < 2 ^ 64 ∧ ∀ u, (bitOf l).testBit u = l.any fun x => decide (0 ≤ x) && decide (x ≤ 63) && decide (x = u) := by
  unfold bitOf
  suffices h : ∀ (l : List Int) (s : Nat), s < 2 ^ 64 → (l.foldl (fun (s : Nat) (x : Int) => if 0 ≤ x ∧ x ≤ 63 then s ||| 2 ^ x.toNat else s) s) < 2 ^ 64 ∧ ∀ u, (l.foldl (fun (s : Nat) (x : Int) => if 0 ≤ x ∧ x ≤ 63 then s ||| 2 ^ x.toNat else s) s).testBit u = (s.testBit u || l.any fun x => decide (0 ≤ x) && decide (x ≤ 63) && decide (x = u)) by
    have := h l 0 (by decide)
    simpa using this
  intro l
  induction l with
  | nil => intro s hs; exact ⟨hs, fun u => by simp⟩
  | cons x l ih =>
    intro s hs
    rw [List.foldl_cons]
    by_cases q : 0 ≤ x ∧ x ≤ 63
    · rw [if_pos q]
      have := ih (s ||| 2 ^ x.toNat) (Nat.or_lt_two_pow hs (Nat.pow_lt_pow_right (by decide) (by omega)))
      refine ⟨this.1, fun u => ?_⟩
      rw [this.2 u, Nat.testBit_or, Nat.testBit_two_pow, List.any_cons, Bool.or_assoc]
      congr 2
      rw [Bool.eq_iff_iff]
      simp only [Bool.and_eq_true, decide_eq_true_eq]
      omega
    · rw [if_neg q]
      have := ih s hs
      refine ⟨this.1, fun u => ?_⟩
      rw [this.2 u, List.any_cons]
      have : (decide (0 ≤ x) && decide (x ≤ 63) && decide (x = (u : Int))) = false := by
        rw [Bool.eq_false_iff]
        intro h
        simp only [Bool.and_eq_true, decide_eq_true_eq] at h
        exact q h.1
      rw [this, Bool.false_or]
theorem setOf_eq {l : List Int} (hl : l.length ≤ 1000000000) : impl_setOf l = some ((bitOf l : Nat) : Int) := by
  unfold impl_setOf
  have := loopM_at (body := fun (s' : Int × Int) => impl_setOf_l1 l s'.1 s'.2) (r := ((bitOf l : Nat) : Int)) (fun k => (((bitOf (l.take k) : Nat) : Int), (k : Int))) l.length (fun k hk => by
    show impl_setOf_l1 l ((bitOf (l.take k) : Nat) : Int) k = _
    unfold impl_setOf_l1
    rw [ifT (by simpa using hk), geti_nat, List.getElem?_eq_getElem hk, Option.bind_some, inRange_eq, Option.bind_some, bitOf_take hk, wk64 (by omega) (by omega)]
    by_cases q : 0 ≤ l[k] ∧ l[k] ≤ 63
    · obtain ⟨n, hn⟩ : ∃ n : Nat, l[k] = n := ⟨l[k].toNat, by omega⟩
      rw [if_pos q, ifT (by simp; omega), hn, wku64 (by omega) (by omega), chk_in (by omega), Option.bind_some, shl_one (by omega), or_u64 (bitOf_all _).1 (Nat.pow_lt_pow_right (by decide) (by omega)), Int.toNat_natCast]
      rfl
    · rw [if_neg q, ifF (by simp; omega)]
      rfl) (by
    show impl_setOf_l1 l ((bitOf (l.take l.length) : Nat) : Int) l.length = _
    unfold impl_setOf_l1
    rw [ifF (by simp), List.take_length])
  have e0 : ((0 : Int), (0 : Int)) = (((bitOf (l.take 0) : Nat) : Int), ((0 : Nat) : Int)) := rfl
  rw [e0, this]
  rfl
def usedN (g : List (List Int)) : Nat → Nat
  | 0 => 0
  | n + 1 => usedN g n ||| bitOf (g.getD n [])
theorem usedN_lt (g : List (List Int)) : ∀ n, usedN g n < 2 ^ 64
  | 0 => by show 0 < 2 ^ 64; decide
  | n + 1 => Nat.or_lt_two_pow (usedN_lt g n) (bitOf_all _).1
theorem usedN_test (g : List (List Int)) (u : Nat) : ∀ n, (usedN g n).testBit u = true ↔ ∃ w, w < n ∧ (bitOf (g.getD w [])).testBit u = true
  | 0 => by simp [usedN]
  | n + 1 => by
    rw [usedN, Nat.testBit_or, Bool.or_eq_true, usedN_test g u n]
    constructor
    · rintro (⟨w, h1, h2⟩ | h)
      · exact ⟨w, by omega, h2⟩
      · exact ⟨n, by omega, h⟩
    · rintro ⟨w, h1, h2⟩
      by_cases q : w = n
      · subst q; exact .inr h2
      · exact .inl ⟨w, by omega, h2⟩
def isTip (g : List (List Int)) (v : Nat) : Bool := !(usedN g g.length).testBit v
def tipsN (g : List (List Int)) (n : Nat) : List Nat := (List.range n).filter (isTip g)
theorem tipsN_succ (g : List (List Int)) (n : Nat) : tipsN g (n + 1) = if isTip g n = true then tipsN g n ++ [n] else tipsN g n := by
  simp only [tipsN, List.range_succ, List.filter_append]
  cases q : isTip g n <;> simp [q]
theorem tipsN_len (g : List (List Int)) (n : Nat) : (tipsN g n).length ≤ n := by
  have := List.length_filter_le (isTip g) (List.range n)
  simpa [tipsN] using this
theorem tips_eq {g : List (List Int)} (hg : gOk g = true) : impl_Tips g = some (ints (tipsN g g.length)) := by
  have h40 := gOk_len hg
  unfold impl_Tips
  rw [graphOkI_eq (by omega), Option.bind_some, hg]
  simp only [Bool.not_true, Bool.false_eq_true, if_false]
  have := loopM_at (body := fun (s' : Int × Int) => impl_Tips_l2 g s'.1 s'.2) (r := ((usedN g g.length : Nat) : Int)) (fun k => (((usedN g k : Nat) : Int), (k : Int))) g.length (fun k hk => by
    show impl_Tips_l2 g ((usedN g k : Nat) : Int) k = _
    unfold impl_Tips_l2
    have h4 := (gOk_at hg hk).1
    have e : g.getD k [] = g[k] := by simp [hk]
    rw [ifT (by simpa using hk), geti_nat, List.getElem?_eq_getElem hk, Option.bind_some, setOf_eq (by omega), Option.bind_some, or_u64 (usedN_lt g k) (bitOf_all _).1, wk64 (by omega) (by omega), usedN, e]
    rfl) (by
    show impl_Tips_l2 g ((usedN g g.length : Nat) : Int) g.length = _
    unfold impl_Tips_l2
    rw [ifF (by simp)])
  have e0 : ((0 : Int), (0 : Int)) = (((usedN g 0 : Nat) : Int), ((0 : Nat) : Int)) := rfl
  rw [e0, this, Option.bind_some]
  unfold impl_Tips_j1
  have := loopM_at (body := fun (s' : Int × List Int) => impl_Tips_l1 g ((usedN g g.length : Nat) : Int) s'.1 s'.2) (r := ints (tipsN g g.length)) (fun k => ((k : Int), ints (tipsN g k))) g.length (fun k hk => by
    show impl_Tips_l1 g ((usedN g g.length : Nat) : Int) k (ints (tipsN g k)) = _
    unfold impl_Tips_l1
    have hlen := tipsN_len g k
    have hh : (decide (0 ≤ (k : Int)) && decide ((k : Int) ≤ 63)) = true := by simp; omega
    rw [ifT (by simpa using hk), setHas_eq (usedN_lt g _), Option.bind_some, hh, Bool.true_and, Int.toNat_natCast, appn_in (by simp [ints_len]; omega), Option.bind_some, wk64 (by omega) (by omega), tipsN_succ]
    unfold isTip
    cases (usedN g g.length).testBit k
    · simp [ints_snoc]
    · simp) (by
    show impl_Tips_l1 g ((usedN g g.length : Nat) : Int) g.length (ints (tipsN g g.length)) = _
    unfold impl_Tips_l1
    rw [ifF (by simp)])
  have e0 : ((0 : Int), ([] : List Int)) = (((0 : Nat) : Int), ints (tipsN g 0)) := rfl
  rw [e0, this]
  rfl
theorem used_iff {g : List (List Int)} (hg : gOk g = true) (v : Nat) : (usedN g g.length).testBit v = true ↔ ∃ w, ∃ h : w < g.length, (v : Int) ∈ g[w] := by
  rw [usedN_test]
  constructor
  · rintro ⟨w, h1, h2⟩
    have e : g.getD w [] = g[w] := by simp [h1]
    rw [e, (bitOf_all _).2, List.any_eq_true] at h2
    obtain ⟨x, hx, h2⟩ := h2
    simp only [Bool.and_eq_true, decide_eq_true_eq] at h2
    exact ⟨w, h1, h2.2 ▸ hx⟩
  · rintro ⟨w, h1, h2⟩
    have e : g.getD w [] = g[w] := by simp [h1]
    refine ⟨w, h1, ?_⟩
    rw [e, (bitOf_all _).2, List.any_eq_true]
    have := gOk_mem hg h1 h2
    have := gOk_len hg
    exact ⟨_, h2, by simp; omega⟩
theorem under_iff {g : List (List Int)} (hg : gOk g = true) {v : Nat} : (∃ u, v < u ∧ u < g.length ∧ (clo g u).testBit v = true) ↔ ∃ w, ∃ h : w < g.length, (v : Int) ∈ g[w] := by
  constructor
  · rintro ⟨u, h1, h2, h3⟩
    revert h1 h2 h3
    induction u using Nat.strongRecOn with
    | _ u ih =>
      intro h1 h2 h3
      rw [clo_test hg h2] at h3
      simp only [Bool.or_eq_true, decide_eq_true_eq, List.any_eq_true] at h3
      rcases h3 with h3 | ⟨p, hp, h3⟩
      · omega
      · have hp' := gOk_mem hg h2 hp
        by_cases q : p.toNat = v
        · exact ⟨u, h2, by rw [show (v : Int) = p by omega]; exact hp⟩
        · have := clo_le hg (v := p.toNat) (by omega) h3
          exact ih p.toNat (by omega) (by omega) (by omega) h3
  · rintro ⟨w, h1, h2⟩
    have := gOk_mem hg h1 h2
    have := clo_parent hg h1 h2
    rw [Int.toNat_natCast] at this
    exact ⟨w, by omega, h1, this⟩
/-- Each version is in the closure of a tip. -/
theorem tip_over {g : List (List Int)} (hg : gOk g = true) : ∀ (m v : Nat), v + m = g.length → 0 < m → ∃ t, t < g.length ∧ isTip g t = true ∧ (clo g t).testBit v = true := by
  intro m
  induction m using Nat.strongRecOn with
  | _ m ih =>
    intro v hv hm
    by_cases q : isTip g v = true
    · exact ⟨v, by omega, q, clo_self hg (by omega)⟩
    · have : (usedN g g.length).testBit v = true := by simpa [isTip] using q
      obtain ⟨w, h1, h2⟩ := (used_iff hg v).1 this
      have hlt := gOk_mem hg h1 h2
      obtain ⟨t, h3, h4, h5⟩ := ih (g.length - w) (by omega) w (by omega) (by omega)
      have := clo_parent hg h1 h2
      rw [Int.toNat_natCast] at this
      exact ⟨t, h3, h4, clo_trans hg h3 h5 this⟩
/-! ### Levels -/
def lev1 (c : List Int) (l : List Int) (m : Int) : Int := l.foldl (fun (m : Int) (p : Int) => if c.getD p.toNat 0 + 1 > m then c.getD p.toNat 0 + 1 else m) m
def levN (g : List (List Int)) : Nat → List Int
  | 0 => List.replicate g.length 0
  | n + 1 => (levN g n).set n (lev1 (levN g n) (g.getD n []) 0)
theorem levN_len (g : List (List Int)) : ∀ n, (levN g n).length = g.length
  | 0 => by simp [levN]
  | n + 1 => by rw [levN, List.length_set, levN_len]
theorem lev1_max (c l : List Int) (m : Int) : m ≤ lev1 c l m ∧ (∀ p ∈ l, c.getD p.toNat 0 + 1 ≤ lev1 c l m) ∧ (∀ B, m ≤ B → (∀ p ∈ l, c.getD p.toNat 0 + 1 ≤ B) → lev1 c l m ≤ B) := by
  unfold lev1
  induction l generalizing m with
  | nil => exact ⟨Int.le_refl _, (fun p hp => by cases hp), fun B h _ => h⟩
  | cons x l ih =>
    rw [List.foldl_cons]
    have := ih (if c.getD x.toNat 0 + 1 > m then c.getD x.toNat 0 + 1 else m)
    obtain ⟨h1, h2, h3⟩ := this
    by_cases q : c.getD x.toNat 0 + 1 > m
    · rw [if_pos q] at h1 h2 h3 ⊢
      refine ⟨by omega, fun p hp => ?_, fun B hB hp => h3 B (hp x (by simp)) (fun p hp' => hp p (by simp [hp']))⟩
      rcases List.mem_cons.1 hp with rfl | hp
      · exact h1
      · exact h2 p hp
    · rw [if_neg q] at h1 h2 h3 ⊢
      refine ⟨h1, fun p hp => ?_, fun B hB hp => h3 B hB (fun p hp' => hp p (by simp [hp']))⟩
      rcases List.mem_cons.1 hp with rfl | hp
      · omega
      · exact h2 p hp
theorem levN_range (g : List (List Int)) : ∀ n i, 0 ≤ (levN g n).getD i 0 ∧ (levN g n).getD i 0 ≤ n
  | 0, i => by
    have : (levN g 0).getD i 0 = 0 := by
      rw [levN, List.getD_eq_getElem?_getD, List.getElem?_replicate]
      split <;> rfl
    omega
  | n + 1, i => by
    rw [levN, List.getD_eq_getElem?_getD, List.getElem?_set]
    have ih := levN_range g n i
    split
    · split
      · obtain ⟨h1, h2, h3⟩ := lev1_max (levN g n) (g.getD n []) 0
        have := h3 (n + 1) (by omega) (fun p _ => by have := levN_range g n p.toNat; omega)
        simp only [Option.getD_some]
        omega
      · simp only [Option.getD_none]
        omega
    · rw [← List.getD_eq_getElem?_getD]
      omega
theorem levN_old (g : List (List Int)) : ∀ (n k i : Nat), i < n → (levN g (n + k)).getD i 0 = (levN g n).getD i 0
  | _, 0, _, _ => rfl
  | n, k + 1, i, hi => by
    rw [← Nat.add_assoc, levN, List.getD_eq_getElem?_getD, List.getElem?_set_ne (by omega), ← List.getD_eq_getElem?_getD]
    exact levN_old g n k i hi
def lev (g : List (List Int)) (v : Nat) : Int := (levN g g.length).getD v 0
theorem levN_lev {g : List (List Int)} {n i : Nat} (hn : n ≤ g.length) (hi : i < n) : (levN g n).getD i 0 = lev g i := by
  have := levN_old g n (g.length - n) i hi
  rw [show n + (g.length - n) = g.length by omega] at this
  exact this.symm
theorem lev_eq {g : List (List Int)} {v : Nat} (hv : v < g.length) : lev g v = lev1 (levN g v) g[v] 0 := by
  have e : g.getD v [] = g[v] := by simp [hv]
  rw [← levN_lev (n := v + 1) (by omega) (by omega), levN, List.getD_eq_getElem?_getD, List.getElem?_set_self (by rw [levN_len]; omega), e]
  rfl
theorem lev_gt {g : List (List Int)} (hg : gOk g = true) {v : Nat} (hv : v < g.length) {p : Int} (hp : p ∈ g[v]) : lev g p.toNat < lev g v := by
  have hp' := gOk_mem hg hv hp
  have h2 := (lev1_max (levN g v) g[v] 0).2.1 p hp
  rw [levN_lev (by omega) (by omega)] at h2
  rw [lev_eq hv]
  omega
theorem levels_eq {g : List (List Int)} (hg : gOk g = true) : impl_Levels g = some (levN g g.length) := by
  have h40 := gOk_len hg
  unfold impl_Levels
  rw [graphOkI_eq (by omega), Option.bind_some, hg]
  simp only [Bool.not_true, Bool.false_eq_true, if_false]
  rw [mkl_in (by omega) (by omega), Option.bind_some, Int.toNat_natCast]
  have := loopM_at (body := fun (s' : Int × (List Int)) => impl_Levels_l1 g s'.1 s'.2) (r := levN g g.length) (fun k => ((k : Int), levN g k)) g.length (fun k hk => by
    show impl_Levels_l1 g k (levN g k) = _
    unfold impl_Levels_l1
    have h4 := (gOk_at hg hk).1
    have e : g.getD k [] = g[k] := by simp [hk]
    have hlen := levN_len g k
    rw [ifT (by simpa using hk), geti_nat, List.getElem?_eq_getElem hk, Option.bind_some]
    have h0 : (levN g k).getD k 0 = 0 := by
      suffices h : ∀ n i, n ≤ i → (levN g n).getD i 0 = 0 from h k k (Nat.le_refl _)
      intro n
      induction n with
      | zero =>
        intro i _
        rw [levN, List.getD_eq_getElem?_getD, List.getElem?_replicate]
        split <;> rfl
      | succ n ih =>
        intro i hi
        rw [levN, List.getD_eq_getElem?_getD, List.getElem?_set_ne (by omega), ← List.getD_eq_getElem?_getD]
        exact ih i (by omega)
    have := loopM_at (body := fun (s' : Int × (List Int)) => impl_Levels_l2 k g[k] s'.1 s'.2) (r := levN g (k + 1)) (fun j => ((j : Int), (levN g k).set k (lev1 (levN g k) (g[k].take j) 0))) g[k].length (fun j hj => by
      show impl_Levels_l2 k g[k] j ((levN g k).set k (lev1 (levN g k) (g[k].take j) 0)) = _
      unfold impl_Levels_l2
      have hm := gOk_mem hg hk (List.getElem_mem hj)
      have hlt : g[k][j].toNat < k := by omega
      have e1 : geti ((levN g k).set k (lev1 (levN g k) (g[k].take j) 0)) (k : Int) = some (lev1 (levN g k) (g[k].take j) 0) := by
        rw [geti_nat, List.getElem?_set_self (by omega)]
      have e2 : geti ((levN g k).set k (lev1 (levN g k) (g[k].take j) 0)) g[k][j] = some ((levN g k).getD g[k][j].toNat 0) := by
        unfold geti
        rw [if_neg (by omega), List.getElem?_set_ne (by omega), List.getD_eq_getElem?_getD, List.getElem?_eq_getElem (by omega)]
        rfl
      have hr := levN_range g k g[k][j].toNat
      simp only [e1]
      rw [ifT (by simpa using hj), geti_nat, List.getElem?_eq_getElem hj]
      simp only [Option.bind_some, e1, e2]
      rw [wk64 (x := (levN g k).getD g[k][j].toNat 0 + 1) (by omega) (by omega), wk64 (by omega) (by omega), List.take_succ_eq_append_getElem hj, Int.toNat_natCast, List.set_set]
      have : lev1 (levN g k) (g[k].take j ++ [g[k][j]]) 0 = if (levN g k).getD g[k][j].toNat 0 + 1 > lev1 (levN g k) (g[k].take j) 0 then (levN g k).getD g[k][j].toNat 0 + 1 else lev1 (levN g k) (g[k].take j) 0 := by
        unfold lev1
        rw [List.foldl_append]
        rfl
      rw [this]
      rfl) (by
      show impl_Levels_l2 k g[k] g[k].length ((levN g k).set k (lev1 (levN g k) (g[k].take g[k].length) 0)) = _
      unfold impl_Levels_l2
      rw [ifF (by simp), List.take_length, levN, e])
    have e0 : ((0 : Int), levN g k) = (((0 : Nat) : Int), (levN g k).set k (lev1 (levN g k) (g[k].take 0) 0)) := by
      have : (levN g k).set k 0 = levN g k := by
        apply List.ext_getElem?
        intro i
        rw [List.getElem?_set]
        split
        · rename_i q
          subst q
          rw [List.getD_eq_getElem?_getD, List.getElem?_eq_getElem (by omega), Option.getD_some] at h0
          rw [if_pos (by omega), List.getElem?_eq_getElem (by omega), h0]
        · rfl
      rw [List.take_zero]
      show _ = (((0 : Nat) : Int), (levN g k).set k 0)
      rw [this]
      rfl
    rw [e0, this, Option.bind_some]
    unfold impl_Levels_j2
    rw [wk64 (by omega) (by omega)]
    rfl) (by
    show impl_Levels_l1 g g.length (levN g g.length) = _
    unfold impl_Levels_l1
    rw [ifF (by simp)])
  have e0 : ((0 : Int), List.replicate g.length (0 : Int)) = (((0 : Nat) : Int), levN g 0) := rfl
  rw [e0, this]
  rfl
theorem isAncestorS_eq {g : List (List Int)} (hg : gOk g = true) {u v : Nat} (hu : u < g.length) (hv : v < g.length) : spec_IsAncestor g u v = some ((clo g v).testBit u) := by
  have h40 := gOk_len hg
  unfold spec_IsAncestor
  rw [l05Has_eq (by omega), Option.bind_some, l05Has_eq (by omega), Option.bind_some, hg]
  have e1 : (decide (0 ≤ (u : Int)) && decide ((u : Int) < (g.length : Int))) = true := by simp; exact hu
  have e2 : (decide (0 ≤ (v : Int)) && decide ((v : Int) < (g.length : Int))) = true := by simp; exact hv
  rw [e1, e2, l05Set_eq hg (by simp)]
  have e := setL_get hg [(v : Int)] u
  have hx : (setL g [(v : Int)])[u]? = some ((clo g v).testBit u) := by
    rw [List.getD_eq_getElem?_getD, List.getElem?_eq_getElem (by rw [setL_len]; exact hu), Option.getD_some] at e
    rw [List.getElem?_eq_getElem (by rw [setL_len]; exact hu), Option.some.injEq, Bool.eq_iff_iff, e]
    constructor
    · rintro ⟨x, hx, _, _, h⟩
      rw [List.mem_singleton.1 hx, Int.toNat_natCast] at h
      exact h
    · intro h
      exact ⟨(v : Int), by simp, by omega, by omega, by rw [Int.toNat_natCast]; exact h⟩
  simp only [Bool.and_self, if_true, Option.bind_some, geti_nat, hx]
def und (g : List (List Int)) (v k : Nat) : Bool := (List.range k).any fun j => (clo g (v + 1 + j)).testBit v
theorem und_succ (g : List (List Int)) (v k : Nat) : und g v (k + 1) = (und g v k || (clo g (v + 1 + k)).testBit v) := by
  unfold und
  rw [List.range_succ, List.any_append]
  simp
theorem und_tip {g : List (List Int)} (hg : gOk g = true) {v : Nat} (hv : v < g.length) : und g v (g.length - (v + 1)) = (usedN g g.length).testBit v := by
  rw [Bool.eq_iff_iff, used_iff hg, ← under_iff hg]
  unfold und
  rw [List.any_eq_true]
  constructor
  · rintro ⟨j, h1, h2⟩
    have := List.mem_range.1 h1
    exact ⟨v + 1 + j, by omega, by omega, h2⟩
  · rintro ⟨u, h1, h2, h3⟩
    exact ⟨u - (v + 1), List.mem_range.2 (by omega), by rw [show v + 1 + (u - (v + 1)) = u by omega]; exact h3⟩
theorem fnTips_graph {g : List (List Int)} (hg : gOk g = true) (v : Nat) (hv : v < g.length) : laws_FnTips_l1 g (ints (tipsN g g.length)) (levN g g.length) v = some (.inl ((v + 1 : Nat) : Int)) := by
  have h40 := gOk_len hg
  unfold laws_FnTips_l1
  rw [ifT (by simpa using hv), wk64 (by omega) (by omega)]
  have h3 := loopM_at (body := fun (s' : Bool × Int) => laws_FnTips_l3 g v s'.1 s'.2) (r := und g v (g.length - (v + 1))) (fun k => (und g v k, ((v + 1 + k : Nat) : Int))) (g.length - (v + 1)) (fun k hk => by
    show laws_FnTips_l3 g v (und g v k) ((v + 1 + k : Nat) : Int) = _
    unfold laws_FnTips_l3
    rw [ifT (by simp; omega), isAncestorS_eq hg hv (by omega), Option.bind_some, wk64 (by omega) (by omega), und_succ]
    cases und g v k <;> rfl) (by
    show laws_FnTips_l3 g v (und g v (g.length - (v + 1))) ((v + 1 + (g.length - (v + 1)) : Nat) : Int) = _
    unfold laws_FnTips_l3
    rw [ifF (by simp; omega)])
  have e0 : (false, (v : Int) + 1) = (und g v 0, ((v + 1 + 0 : Nat) : Int)) := rfl
  rw [e0, h3, Option.bind_some, und_tip hg hv]
  unfold laws_FnTips_j3
  have hlen := tipsN_len g g.length
  have hw : decide ((v : Int) ∈ ints (tipsN g g.length)) = isTip g v := by
    rw [Bool.eq_iff_iff, decide_eq_true_eq]
    simp only [ints, tipsN, List.mem_map, List.mem_filter, List.mem_range]
    constructor
    · rintro ⟨u, ⟨_, h2⟩, h3⟩
      rw [show v = u by omega]
      exact h2
    · intro h
      exact ⟨v, ⟨hv, h⟩, rfl⟩
  rw [within_eq (by rw [ints_len]; omega), Option.bind_some, hw]
  rw [ifF (by unfold isTip; cases (usedN g g.length).testBit v <;> rfl)]
  have h2 : loopM (fun (s' : Int) => laws_FnTips_l2 g (levN g g.length) v s') 0 = some (.inr ()) := by
    have glev : ∀ u : Nat, u < g.length → geti (levN g g.length) (u : Int) = some (lev g u) := fun u hu => by
      rw [geti_nat, List.getElem?_eq_getElem (by rw [levN_len]; exact hu)]
      simp [lev, levN_len, hu]
    have hgv : geti g (v : Int) = some g[v] := by rw [geti_nat, List.getElem?_eq_getElem]
    refine eq_loop g[v].length (fun k hk => ?_) ?_
    · unfold laws_FnTips_l2
      have hmem := List.getElem_mem hk
      have hp := gOk_mem hg hv hmem
      have h4' := (gOk_at hg hv).1
      have hgt := lev_gt hg hv hmem
      have e : g[v][k] = ((g[v][k].toNat : Nat) : Int) := by omega
      simp only [hgv, Option.bind_some]
      rw [ifT (by simpa using hk), geti_nat, List.getElem?_eq_getElem hk, Option.bind_some]
      rw [e, glev _ (by omega), Option.bind_some, glev v hv, Option.bind_some, ifF (by simp; exact hgt), wk64 (by omega) (by omega)]
      rfl
    · unfold laws_FnTips_l2
      simp only [hgv, Option.bind_some]
      rw [ifF (by simp)]
  rw [h2, Option.bind_some]
  show laws_FnTips_j4 g (levN g g.length) v = _
  unfold laws_FnTips_j4 laws_FnTips_j2
  have hgv : geti g (v : Int) = some g[v] := by rw [geti_nat, List.getElem?_eq_getElem]
  have hlv : geti (levN g g.length) (v : Int) = some (lev g v) := by
    rw [geti_nat, List.getElem?_eq_getElem (by rw [levN_len]; exact hv)]
    simp [lev, levN_len, hv]
  rw [hgv, Option.bind_some, hlv, wk64 (by omega) (by omega)]
  by_cases q : g[v].length = 0
  · have hz : lev g v = 0 := by
      rw [lev_eq hv, List.length_eq_zero_iff.1 q]
      rfl
    rw [ifT (by simpa using q), Option.bind_some, hz]
    rfl
  · rw [ifF (by rw [beq_eq_false_iff_ne]; omega)]
    rfl
theorem fnTips_true {code : List Int} (h : code.length ≤ 1000000000000000) : laws_FnTips code = some true := by
  unfold laws_FnTips
  rw [big_eq, Option.bind_some]
  by_cases q : (code.length : Int) > 1048576
  · rw [ifT (by simpa using q)]
  · rw [ifF (by simpa using q)]
    obtain ⟨g, h1, hg, h2, h3⟩ := drawRightGraph_ok (b := code) (by omega)
    have hlen := tipsN_len g g.length
    rw [h1, Option.bind_some, tips_eq hg, Option.bind_some, levels_eq hg, Option.bind_some, levN_len, properOfI_eq (by omega) (by rw [ints_len]; omega), Option.bind_some]
    have hall : allIn g (ints (tipsN g g.length)) = true := by
      unfold allIn
      rw [List.all_eq_true]
      intro i hi
      have hi := List.mem_range.1 hi
      have hm := List.getElem_mem hi
      simp only [ints, tipsN, List.mem_map, List.mem_filter, List.mem_range] at hm
      obtain ⟨u, ⟨hu, _⟩, hu2⟩ := hm
      have e : (ints (tipsN g g.length)).getD i 0 = (u : Int) := by
        rw [List.getD_eq_getElem?_getD, List.getElem?_eq_getElem hi, Option.getD_some]
        exact hu2.symm
      rw [e]
      simp
      exact hu
    have hl : (ints (propL g (ints (tipsN g g.length)))).length = g.length := by
      unfold propL
      rw [hg, hall, if_pos (by rfl), ints_len]
      have : bitsL (orL (closN g g.length) (ints (tipsN g g.length))) 64 = List.range g.length := by
        unfold bitsL
        have e : (List.range 64) = List.range g.length ++ (List.range (64 - g.length)).map (g.length + ·) := by
          rw [← List.range_add]
          congr 1
          omega
        have t : ∀ u, (orL (closN g g.length) (ints (tipsN g g.length))).testBit u = true ↔ ∃ t, t < g.length ∧ isTip g t = true ∧ (clo g t).testBit u = true := fun u => by
          rw [orL_test, List.any_eq_true]
          simp only [ints, tipsN, List.mem_map, List.mem_filter, List.mem_range]
          constructor
          · rintro ⟨x, ⟨t, ⟨h1, h2⟩, rfl⟩, h3⟩
            exact ⟨t, h1, h2, h3⟩
          · rintro ⟨t, h1, h2, h3⟩
            exact ⟨(t : Int), ⟨t, ⟨h1, h2⟩, rfl⟩, by rw [Int.toNat_natCast]; exact h3⟩
        rw [e, List.filter_append]
        have f1 : (List.range g.length).filter (fun v => (orL (closN g g.length) (ints (tipsN g g.length))).testBit v) = List.range g.length := by
          rw [List.filter_eq_self]
          intro v hv
          have hv := List.mem_range.1 hv
          exact (t v).2 (tip_over hg (g.length - v) v (by omega) (by omega))
        have f2 : ((List.range (64 - g.length)).map (g.length + ·)).filter (fun v => (orL (closN g g.length) (ints (tipsN g g.length))).testBit v) = [] := by
          rw [List.filter_eq_nil_iff]
          intro v hv
          obtain ⟨k, _, rfl⟩ := List.mem_map.1 hv
          intro q
          obtain ⟨t, h1, _, h3⟩ := (t _).1 q
          have := clo_le hg h1 h3
          omega
        rw [f1, f2, List.append_nil]
      rw [this, List.length_range]
    rw [hl, ifF (by simp), Option.bind_some, ifF (by simp)]
    have : loopM (fun (s' : Int) => laws_FnTips_l1 g (ints (tipsN g g.length)) (levN g g.length) s') 0 = some (.inr ()) := eq_loop g.length (fun v hv => fnTips_graph hg v hv) (by
      unfold laws_FnTips_l1
      rw [ifF (by simp)])
    rw [this]
    rfl
end Go.TV.F
/- Plain Lean: Bases. -/
namespace Go.TV.F
open Go.TV
/-- A loop, by what stays true. -/
theorem loopM_inv {σ ρ : Type} {f : σ → Option (σ ⊕ ρ)} (I : σ → Prop) (m : σ → Nat) (Q : ρ → Prop) {s : σ} (h0 : I s)
    (h : ∀ s, I s → (∃ s', f s = some (.inl s') ∧ I s' ∧ m s' < m s) ∨ ∃ r, f s = some (.inr r) ∧ Q r) : ∃ r, loopM f s = some r ∧ Q r := by
  have key : ∀ n s, I s → m s = n → ∃ r, loopM f s = some r ∧ Q r := by
    intro n
    induction n using Nat.strongRecOn with
    | _ n ih =>
      intro s hs hm
      rw [loopM_eq f]
      rcases h s hs with ⟨s', h1, h2, h3⟩ | ⟨r, h1, h2⟩
      · rw [h1]
        exact ih (m s') (by omega) s' h2 rfl
      · rw [h1]
        exact ⟨r, rfl, h2⟩
  exact key _ s h0 rfl
theorem indexFunc_eq {s : List Int} {f : Int → Option Bool} {p : Int → Bool} (hl : s.length ≤ 1000000000) (hf : ∀ x ∈ s, f x = some (p x)) :
    (slices_IndexFunc_int_int s f = some (-1) ∧ ∀ x ∈ s, p x = false) ∨ ∃ k : Nat, ∃ h : k < s.length, slices_IndexFunc_int_int s f = some (k : Int) ∧ p s[k] = true ∧ ∀ j, ∀ h : j < k, p (s[j]'(by omega)) = false := by
  unfold slices_IndexFunc_int_int
  obtain ⟨r, h1, h2⟩ := loopM_inv (f := fun s' => slices_IndexFunc_int_int_l1 s f s') (fun i : Int => ∃ k : Nat, i = k ∧ k ≤ s.length ∧ ∀ j, ∀ h : j < k, ∀ h2 : j < s.length, p s[j] = false) (fun i => (s.length - i).toNat)
    (fun r => (r = .inr () ∧ ∀ x ∈ s, p x = false) ∨ ∃ k : Nat, ∃ h : k < s.length, r = .inl (k : Int) ∧ p s[k] = true ∧ ∀ j, ∀ h : j < k, p (s[j]'(by omega)) = false) (s := 0) ⟨0, rfl, by omega, fun j h => by omega⟩ (fun i hi => by
    obtain ⟨k, rfl, hk, hp⟩ := hi
    unfold slices_IndexFunc_int_int_l1
    by_cases q : k < s.length
    · rw [ifT (by simpa using q), geti_nat, List.getElem?_eq_getElem q, Option.bind_some, hf _ (List.getElem_mem q), Option.bind_some]
      cases h : p s[k] with
      | true =>
        rw [ifT rfl]
        exact .inr ⟨_, rfl, .inr ⟨k, q, rfl, h, fun j hj => hp j hj (by omega)⟩⟩
      | false =>
        rw [ifF (by simp), wk64 (by omega) (by omega)]
        refine .inl ⟨_, rfl, ⟨k + 1, by omega, by omega, fun j hj h2 => ?_⟩, by omega⟩
        by_cases e : j = k
        · subst e
          exact h
        · exact hp j (by omega) h2
    · rw [ifF (by simpa using q)]
      refine .inr ⟨_, rfl, .inl ⟨rfl, fun x hx => ?_⟩⟩
      obtain ⟨j, hj, rfl⟩ := List.getElem_of_mem hx
      exact hp j (by omega) hj)
  rw [h1]
  rcases h2 with ⟨rfl, h3⟩ | ⟨k, hk, rfl, h3, h4⟩
  · exact .inl ⟨rfl, h3⟩
  · exact .inr ⟨k, hk, rfl, h3, h4⟩
theorem containsFunc_eq {s : List Int} {f : Int → Option Bool} {p : Int → Bool} (hl : s.length ≤ 1000000000) (hf : ∀ x ∈ s, f x = some (p x)) : slices_ContainsFunc_int_int s f = some (s.any p) := by
  unfold slices_ContainsFunc_int_int
  rcases indexFunc_eq hl hf with ⟨h1, h2⟩ | ⟨k, hk, h1, h2, _⟩
  · rw [h1, Option.bind_some]
    have : s.any p = false := List.any_eq_false.2 (fun x hx => by rw [h2 x hx]; simp)
    rw [this]
    rfl
  · rw [h1, Option.bind_some]
    have : s.any p = true := List.any_eq_true.2 ⟨_, List.getElem_mem hk, h2⟩
    rw [this]
    simp
theorem deleteFunc_eq {s : List Int} {f : Int → Option Bool} {p : Int → Bool} (hl : s.length ≤ 1000000000) (hf : ∀ x ∈ s, f x = some (p x)) : slices_DeleteFunc_int_int s f = some (s.filter fun x => !p x) := by
  unfold slices_DeleteFunc_int_int
  rcases indexFunc_eq hl hf with ⟨h1, h2⟩ | ⟨k, hk, h1, h2, h3⟩
  · rw [h1, Option.bind_some, ifT (by decide)]
    congr 1
    exact (List.filter_eq_self.2 (fun x hx => by rw [h2 x hx]; rfl)).symm
  · rw [h1, Option.bind_some, ifF (by simp)]
    have e0 : (s.take k).filter (fun x => !p x) = s.take k := List.filter_eq_self.2 (fun x hx => by
      obtain ⟨j, hj, rfl⟩ := List.getElem_of_mem hx
      rw [List.length_take] at hj
      rw [List.getElem_take, h3 j (by omega)]
      rfl)
    obtain ⟨r, g1, A, M, g2, g3⟩ := loopM_inv (f := fun (s' : Int × Int × List Int) => slices_DeleteFunc_int_int_l1 f s'.1 s'.2.1 s'.2.2) (fun t : Int × Int × List Int => ∃ (j : Nat) (A M : List Int), t = ((A.length : Int), (j : Int), A ++ M ++ s.drop j) ∧ j ≤ s.length ∧ A.length + M.length = j ∧ M ≠ [] ∧ A = (s.take j).filter fun x => !p x)
      (fun t => (s.length - t.2.1).toNat) (fun r => ∃ A M : List Int, r = ((A.length : Int), A ++ M) ∧ A = s.filter fun x => !p x) (s := ((k : Int), wk .i64 ((k : Int) + 1), s))
      (by
        refine ⟨k + 1, s.take k, [s[k]], ?_, by omega, by simp; omega, by simp, ?_⟩
        · rw [wk64 (by omega) (by omega)]
          congr 1
          · rw [List.length_take]
            omega
          · congr 1
            rw [List.append_assoc, List.singleton_append, ← List.drop_eq_getElem_cons hk, List.take_append_drop]
        · rw [List.take_add_one, List.getElem?_eq_getElem hk, List.filter_append, e0]
          simp [h2]) (fun t ht => by
      obtain ⟨j, A, M, rfl, hj, hlen, hM, hA⟩ := ht
      obtain ⟨m, M', rfl⟩ := List.exists_cons_of_ne_nil hM
      unfold slices_DeleteFunc_int_int_l1
      have hL : (A ++ m :: M' ++ s.drop j).length = s.length := by simp at hlen ⊢; omega
      simp only [hL]
      by_cases q : j < s.length
      · have hx : (A ++ m :: M' ++ s.drop j)[j]? = some s[j] := by
          rw [List.getElem?_append_right (by simp at hlen ⊢; omega), List.getElem?_drop, ← List.getElem?_eq_getElem q]
          congr 1
          simp at hlen ⊢
          omega
        rw [ifT (by simpa using q), geti_nat, hx, Option.bind_some, hf _ (List.getElem_mem q), Option.bind_some]
        have w1 : wk .i64 ((j : Int) + 1) = ((j + 1 : Nat) : Int) := by rw [wk64 (by omega) (by omega)]; omega
        have hd : s.drop j = s[j] :: s.drop (j + 1) := List.drop_eq_getElem_cons q
        have ht : s.take (j + 1) = s.take j ++ [s[j]] := by rw [List.take_add_one, List.getElem?_eq_getElem q]; rfl
        cases hp : p s[j] with
        | true =>
          rw [ifF (by simp), w1]
          refine .inl ⟨_, rfl, ⟨j + 1, A, m :: M' ++ [s[j]], ?_, by omega, by simp at hlen ⊢; omega, by simp, ?_⟩, by simp only; omega⟩
          · rw [hd]
            simp
          · rw [ht, List.filter_append, ← hA]
            simp [hp]
        | false =>
          have hi : (A ++ m :: M' ++ s.drop j)[A.length]? = some m := by
            rw [List.append_assoc, List.getElem?_append_right (Nat.le_refl _)]
            simp
          rw [ifT (by simp), geti_nat, hi, Option.bind_some, w1, wk64 (by omega) (by simp at hlen; omega), Int.toNat_natCast]
          refine .inl ⟨_, rfl, ⟨j + 1, A ++ [s[j]], M' ++ [s[j]], ?_, by omega, by simp at hlen ⊢; omega, by simp, ?_⟩, by simp only; omega⟩
          · congr 1
            · simp
            · congr 1
              rw [List.append_assoc, List.set_append_right _ _ (Nat.le_refl _), Nat.sub_self, hd]
              simp
          · rw [ht, List.filter_append, ← hA]
            simp [hp]
      · have : j = s.length := by omega
        subst this
        rw [ifF (by simp)]
        refine .inr ⟨_, rfl, A, m :: M', by simp, ?_⟩
        rw [hA, List.take_length])
    rw [g1, Option.bind_some]
    unfold slices_DeleteFunc_int_int_j1
    subst g2
    simp only
    unfold cutL cutH
    rw [if_neg (by omega), if_pos (by simp), Option.bind_some, if_neg (by omega), if_pos (by simp [clrN]), Option.bind_some]
    congr 1
    rw [← g3]
    unfold clrN
    simp
/-- The bases, told shortly. -/
def isBase (g : List (List Int)) (l : List Nat) (v : Nat) : Bool := !(l.any fun o => (o != v) && (clo g o).testBit v)
def basL (g : List (List Int)) (a b : Int) : List Nat := (commL g a b).filter (isBase g (commL g a b))
theorem commB_in {g : List (List Int)} {a b : Int} (h : commB g a b = true) : 0 ≤ a ∧ a < g.length ∧ 0 ≤ b ∧ b < g.length ∧ gOk g = true := by
  unfold commB at h
  simp at h
  exact ⟨h.1.1.1, h.1.1.2, h.1.2.1, h.1.2.2, h.2⟩
theorem commL_mem {g : List (List Int)} {a b : Int} (h : commB g a b = true) {v : Nat} : v ∈ commL g a b ↔ (clo g a.toNat).testBit v = true ∧ (clo g b.toNat).testBit v = true := by
  obtain ⟨h1, h2, h3, h4, h5⟩ := commB_in h
  unfold commL bitsL
  rw [if_pos h]
  simp only [List.mem_filter, List.mem_range, Nat.testBit_and, Bool.and_eq_true]
  constructor
  · exact fun h => h.2
  · intro hh
    have := clo_le h5 (v := a.toNat) (by omega) hh.1
    have := gOk_len h5
    exact ⟨by omega, hh⟩
theorem commL_lt {g : List (List Int)} {a b : Int} {v : Nat} (hv : v ∈ commL g a b) : commB g a b = true ∧ v < g.length ∧ v < 40 := by
  by_cases h : commB g a b = true
  · obtain ⟨h1, h2, h3, h4, h5⟩ := commB_in h
    have := clo_le h5 (v := a.toNat) (by omega) ((commL_mem h).1 hv).1
    have := gOk_len h5
    exact ⟨h, by omega, by omega⟩
  · unfold commL at hv
    rw [if_neg h] at hv
    cases hv
theorem any_ints (l : List Nat) (p : Int → Bool) : (ints l).any p = l.any fun v => p v := by
  unfold ints
  rw [List.any_map]
  rfl
theorem filter_ints (l : List Nat) (p : Int → Bool) : (ints l).filter p = ints (l.filter fun v => p v) := by
  unfold ints
  rw [List.filter_map]
  rfl
theorem mem_ints {l : List Nat} {x : Int} : x ∈ ints l ↔ ∃ v ∈ l, x = (v : Int) := by
  unfold ints
  simp only [List.mem_map]
  constructor
  · rintro ⟨v, h, rfl⟩; exact ⟨v, h, rfl⟩
  · rintro ⟨v, h, rfl⟩; exact ⟨v, h, rfl⟩
theorem basesI_eq {g : List (List Int)} {a b : Int} (hl : g.length ≤ 10000000) : impl_Bases g a b = some (ints (basL g a b)) := by
  unfold impl_Bases
  have hc := commonsI_eq (a := a) (b := b) hl
  unfold impl_Commons at hc
  rw [commons_eq hl, Option.bind_some] at hc ⊢
  have hc2 : impl_set_list (if commB g a b = true then (((clo g a.toNat &&& clo g b.toNat : Nat) : Int), us (closN g g.length)) else (0, [])).1 = some (ints (commL g a b)) := by
    cases h : impl_set_list (if commB g a b = true then (((clo g a.toNat &&& clo g b.toNat : Nat) : Int), us (closN g g.length)) else (0, [])).1 with
    | none => rw [h] at hc; cases hc
    | some y => rw [h] at hc; simpa using hc
  rw [hc2, Option.bind_some]
  have hlen := commL_len g a b
  unfold slices_Clone_int_int
  rw [appn_in (by simp; omega), Option.bind_some, List.nil_append]
  have hcl : ∀ o ∈ ints (commL g a b), ∀ v ∈ ints (commL g a b), impl_Bases_c1_c1 o v (if commB g a b = true then (((clo g a.toNat &&& clo g b.toNat : Nat) : Int), us (closN g g.length)) else (0, [])).2 = some ((o != v) && (clo g o.toNat).testBit v.toNat) := by
    intro o ho v hv
    obtain ⟨o, ho', rfl⟩ := mem_ints.1 ho
    obtain ⟨v, hv', rfl⟩ := mem_ints.1 hv
    obtain ⟨h1, h2, h3⟩ := commL_lt ho'
    obtain ⟨_, h5, h6⟩ := commL_lt hv'
    have hg := (commB_in h1).2.2.2.2
    rw [if_pos h1]
    unfold impl_Bases_c1_c1
    cases q : ((o : Int) != (v : Int)) with
    | false => rfl
    | true =>
      rw [ifT rfl, clo_get (by omega) (by omega), Option.bind_some, setHas_eq (clo_lt hg _)]
      have d1 : (decide ((0 : Int) ≤ (v : Int)) && decide ((v : Int) ≤ 63)) = true := by simp; omega
      simp
      intro _
      omega
  have hc1 : ∀ v ∈ ints (commL g a b), impl_Bases_c1 v (ints (commL g a b)) (if commB g a b = true then (((clo g a.toNat &&& clo g b.toNat : Nat) : Int), us (closN g g.length)) else (0, [])).2 = some ((ints (commL g a b)).any fun o => (o != v) && (clo g o.toNat).testBit v.toNat) := by
    intro v hv
    unfold impl_Bases_c1
    rw [containsFunc_eq (by omega) (fun o ho => hcl o ho v hv)]
    rfl
  rw [deleteFunc_eq (by omega) hc1, Option.bind_some, filter_ints]
  unfold basL isBase
  congr 2
  apply List.filter_congr
  intro v hv
  rw [any_ints]
  congr 2
  funext o
  have : ((o : Int) != (v : Int)) = (o != v) := by
    rw [Bool.eq_iff_iff]
    simp
    omega
  simp [this]
theorem isAnc_comm {g : List (List Int)} {a b : Int} {o v : Nat} (ho : o ∈ commL g a b) (hv : v ∈ commL g a b) : spec_IsAncestor g v o = some ((clo g o).testBit v) := by
  obtain ⟨h1, h2, _⟩ := commL_lt ho
  obtain ⟨_, h3, _⟩ := commL_lt hv
  exact isAncestorS_eq (commB_in h1).2.2.2.2 h3 h2
theorem basesS_eq {g : List (List Int)} {a b : Int} (hl : g.length ≤ 10000000) : spec_Bases g a b = some (ints (basL g a b)) := by
  unfold spec_Bases
  rw [commonsS_eq hl, Option.bind_some]
  have hlen := commL_len g a b
  generalize hL : commL g a b = L at hlen
  have hin : ∀ (i : Nat) (hi : i < L.length), loopM (fun (s' : Bool × Int) => spec_Bases_l2 g (ints L) (i : Int) s'.1 s'.2) (true, 0) = some ((List.range L.length).all fun k => (i == k) || !(clo g (L.getD k 0)).testBit L[i]) := by
    intro i hi
    have hb : ∀ (k : Nat) (hk : k < L.length), spec_IsAncestor g ((L[i] : Nat) : Int) ((L[k] : Nat) : Int) = some ((clo g L[k]).testBit L[i]) := fun k hk => isAnc_comm (a := a) (b := b) (by rw [hL]; exact List.getElem_mem hk) (by rw [hL]; exact List.getElem_mem hi)
    have := loopM_at (body := fun (s' : Bool × Int) => spec_Bases_l2 g (ints L) (i : Int) s'.1 s'.2) (r := (List.range L.length).all fun k => (i == k) || !(clo g (L.getD k 0)).testBit L[i]) (fun k => ((List.range k).all (fun k => (i == k) || !(clo g (L.getD k 0)).testBit L[i]), (k : Int))) L.length (fun k hk => by
      show spec_Bases_l2 g (ints L) (i : Int) _ (k : Int) = _
      unfold spec_Bases_l2
      rw [ifT (by rw [ints_len]; simpa using hk)]
      have w : wk .i64 ((k : Int) + 1) = ((k + 1 : Nat) : Int) := by rw [ints_len] at hlen; rw [wk64 (by omega) (by omega)]; omega
      have gk : ∀ (j : Nat) (hj : j < L.length), geti (ints L) (j : Int) = some ((L[j] : Nat) : Int) := fun j hj => by
        rw [geti_nat]
        unfold ints
        rw [List.getElem?_map, List.getElem?_eq_getElem hj]
        rfl
      rw [List.range_succ, List.all_append, w]
      cases (List.range k).all (fun k => (i == k) || !(clo g (L.getD k 0)).testBit L[i]) with
      | false => rfl
      | true =>
        rw [ifT rfl]
        simp only [List.all_cons, List.all_nil, Bool.and_true, Bool.true_and]
        by_cases e : i = k
        · subst e
          rw [ifT (by simp)]
          simp
        · rw [ifF (by simp; omega), gk i hi, gk k hk, Option.bind_some, Option.bind_some, hb k hk]
          have : (i == k) = false := by simpa using e
          simp [this, List.getD_eq_getElem?_getD, List.getElem?_eq_getElem hk]) (by
      show spec_Bases_l2 g (ints L) (i : Int) _ (L.length : Int) = _
      unfold spec_Bases_l2
      rw [ifF (by rw [ints_len]; simp)])
    exact this
  have hbase : ∀ (i : Nat) (hi : i < L.length), ((List.range L.length).all fun k => (i == k) || !(clo g (L.getD k 0)).testBit L[i]) = isBase g L L[i] := by
    intro i hi
    have hnd : L.Nodup := by
      rw [← hL]
      unfold commL
      split
      · exact List.Pairwise.filter _ List.nodup_range
      · simp
    unfold isBase
    rw [Bool.eq_iff_iff]
    simp only [List.all_eq_true, List.mem_range, Bool.or_eq_true, beq_iff_eq, Bool.not_eq_true', List.any_eq_false, Bool.and_eq_true, bne_iff_ne, not_and, Bool.not_eq_true]
    constructor
    · intro h o ho hne
      obtain ⟨k, hk, rfl⟩ := List.getElem_of_mem ho
      rcases h k hk with rfl | h
      · exact absurd rfl hne
      · rwa [List.getD_eq_getElem?_getD, List.getElem?_eq_getElem hk] at h
    · intro h k hk
      by_cases e : i = k
      · exact .inl e
      · right
        rw [List.getD_eq_getElem?_getD, List.getElem?_eq_getElem hk]
        refine h _ (List.getElem_mem hk) (fun he => ?_)
        exact e ((List.getElem_inj hnd).1 he).symm
  have := loopM_at (body := fun (s' : Int × List Int) => spec_Bases_l1 g (ints L) s'.1 s'.2) (r := ints (L.filter (isBase g L))) (fun i => ((i : Int), ints ((L.take i).filter (isBase g L)))) L.length (fun i hi => by
    show spec_Bases_l1 g (ints L) (i : Int) _ = _
    unfold spec_Bases_l1
    rw [ifT (by rw [ints_len]; simpa using hi), hin i hi, Option.bind_some, hbase i hi]
    have w : wk .i64 ((i : Int) + 1) = ((i + 1 : Nat) : Int) := by rw [ints_len] at hlen; rw [wk64 (by omega) (by omega)]; omega
    have gk : geti (ints L) (i : Int) = some ((L[i] : Nat) : Int) := by
      rw [geti_nat]
      unfold ints
      rw [List.getElem?_map, List.getElem?_eq_getElem hi]
      rfl
    have ht : L.take (i + 1) = L.take i ++ [L[i]] := by rw [List.take_add_one, List.getElem?_eq_getElem hi]; rfl
    unfold spec_Bases_j3 spec_Bases_j2
    rw [w, ht, List.filter_append]
    cases q : isBase g L L[i] with
    | true =>
      have hle : (ints ((L.take i).filter (isBase g L))).length ≤ 64 := by
        rw [ints_len] at hlen ⊢
        have := List.length_filter_le (isBase g L) (L.take i)
        rw [List.length_take] at this
        omega
      rw [ifT rfl, gk, Option.bind_some, appn_in (by simp only [List.length_cons, List.length_nil]; omega), Option.bind_some]
      simp [q, ints]
    | false =>
      rw [ifF (by simp)]
      simp [q, ints]) (by
    show spec_Bases_l1 g (ints L) (L.length : Int) _ = _
    unfold spec_Bases_l1
    rw [ifF (by rw [ints_len]; simp), List.take_length])
  have e0 : ((0 : Nat) : Int) = 0 := rfl
  simp only [List.take_zero, List.filter_nil, e0] at this
  have e1 : ints [] = [] := rfl
  rw [e1] at this
  rw [this]
  unfold basL
  rw [hL]
  rfl
theorem basL_len (g : List (List Int)) (a b : Int) : (ints (basL g a b)).length ≤ 64 := by
  have := commL_len g a b
  rw [ints_len] at this ⊢
  unfold basL
  exact Nat.le_trans (List.length_filter_le _ _) this
theorem fnExactBases_true {g : List (List Int)} {a b : Int} (h : g.length ≤ 1000000000000000) (hp : ∀ p ∈ g, p.length ≤ 1000000000000000) : laws_FnExactBases g a b = some true := by
  unfold laws_FnExactBases
  rw [szIntSS_eq h hp (by omega) (by omega), Option.bind_some]
  by_cases q : (wII g : Int) ≤ 1048576
  · rw [if_pos q, ifF (by simp; omega)]
    have hg : g.length ≤ 10000000 := by unfold wII at q; omega
    have hc := basL_len g a b
    simp only [toIntSS_eq (a := g) (by omega), basesS_eq hg, basesI_eq hg, Option.bind_some, eqIntS_refl (a := ints (basL g a b)) (by omega), eqIntSS_refl (a := g) (by omega),
      markIntSS_eq (a := g) (k := 1) (by omega) (by omega), markIntS_eq (a := ints (basL g a b)) (k := 1) (by omega) (by omega), heldIntS_eq (a := ints (basL g a b)) (k := 1) (by omega) (by omega), Bool.not_true, Bool.false_eq_true, if_false]
    rw [ifF (by simp; omega)]
    simp only [Option.bind_some, Bool.false_eq_true, if_false, bne_self_eq_false]
    rw [ifF (by simp; omega)]
    rw [ifF (by simp; omega)]
  · rw [if_neg q, ifT (by simp)]
end Go.TV.F
/- Plain Lean: the law FnBases. -/
namespace Go.TV.F
open Go.TV
theorem l01Below_mid {b : List Int} {c : T_spec_l01Cur} {n : Int} (hb : b.length ≤ 1000000000) (h : CurOk b c) (h1 : 256 < n) (h2 : n ≤ 1000000000) : ∃ x c', spec_l01Below c n = some (x, c') ∧ 0 ≤ x ∧ x < n ∧ CurOk b c' := by
  unfold spec_l01Below
  rw [ifF (by simp; omega), ifF (by simp; omega)]
  obtain ⟨x1, c1, g1, a1, b1, h1⟩ := l01Byte_ok hb h
  rw [show (T_spec_l01Cur.mk c.b c.i c.h) = c from rfl, g1, Option.bind_some]
  obtain ⟨x2, c2, g2, a2, b2, h2⟩ := l01Byte_ok hb h1
  rw [show (T_spec_l01Cur.mk c1.b c1.i c1.h) = c1 from rfl, g2, Option.bind_some]
  obtain ⟨x3, c3, g3, a3, b3, h3⟩ := l01Byte_ok hb h2
  rw [show (T_spec_l01Cur.mk c2.b c2.i c2.h) = c2 from rfl, g3, Option.bind_some]
  obtain ⟨x4, c4, g4, a4, b4, h4⟩ := l01Byte_ok hb h3
  rw [show (T_spec_l01Cur.mk c3.b c3.i c3.h) = c3 from rfl, g4, Option.bind_some, chk_in (by omega)]
  simp only [Option.bind_some]
  rw [wk64 (x := x1 * 16777216) (by omega) (by omega), wk64 (x := x2 * 65536) (by omega) (by omega), wk64 (x := x1 * 16777216 + x2 * 65536) (by omega) (by omega), wk64 (x := x3 * 256) (by omega) (by omega), wk64 (x := x1 * 16777216 + x2 * 65536 + x3 * 256) (by omega) (by omega), wk64 (x := x1 * 16777216 + x2 * 65536 + x3 * 256 + x4) (by omega) (by omega)]
  have := tmod_range (x := x1 * 16777216 + x2 * 65536 + x3 * 256 + x4) (n := n) (by omega) (by omega)
  exact ⟨_, _, rfl, this.1, this.2, h4⟩
theorem drawPlaces_ok {b : List Int} (hb : b.length ≤ 1000000000) : ∃ l, spec_DrawPlaces b = some l ∧ l.length = 12 ∧ ∀ x ∈ l, 0 ≤ x := by
  unfold spec_DrawPlaces
  obtain ⟨c, h1, hc⟩ := l01New_ok hb
  rw [h1, Option.bind_some]
  obtain ⟨x0, c0, h2, _, _, hc0⟩ := l01Byte_ok hb hc
  rw [show (T_spec_l01Cur.mk c.b c.i c.h) = c from rfl, h2, Option.bind_some]
  obtain ⟨r, h3, h4⟩ := loopM_inv (f := fun (s' : Int × (List Int) × Int × Int × (List Int)) => spec_DrawPlaces_l1 s'.1 s'.2.1 s'.2.2.1 s'.2.2.2.1 s'.2.2.2.2)
    (fun s => s.1 = s.2.2.2.2.length ∧ s.2.2.2.2.length ≤ 12 ∧ CurOk b ⟨s.2.1, s.2.2.1, s.2.2.2.1⟩ ∧ ∀ x ∈ s.2.2.2.2, 0 ≤ x) (fun s => 12 - s.2.2.2.2.length)
    (fun r => r.length = 12 ∧ ∀ x ∈ r, 0 ≤ x) (s := (0, c0.b, c0.i, c0.h, [])) ⟨rfl, by simp, hc0, fun _ h => by cases h⟩ (fun s hs => by
    obtain ⟨v, cb, ci, ch, out⟩ := s
    obtain ⟨hv, hl, hc, hp⟩ := hs
    simp only at hv hl hc hp
    subst hv
    show (∃ s', spec_DrawPlaces_l1 _ cb ci ch out = _ ∧ _) ∨ ∃ r, spec_DrawPlaces_l1 _ cb ci ch out = _ ∧ _
    unfold spec_DrawPlaces_l1
    by_cases q : out.length < 12
    · rw [ifT (by simp; omega)]
      obtain ⟨x, c', g1, g2, _, g4⟩ := l01Below_mid (n := 10000) hb hc (by omega) (by omega)
      rw [g1, Option.bind_some, appn_in (by simp; omega), Option.bind_some, wk64 (by omega) (by omega)]
      refine .inl ⟨_, rfl, ⟨by simp, by simp; omega, g4, fun y hy => ?_⟩, by simp; omega⟩
      rcases List.mem_append.1 hy with hy | hy
      · exact hp y hy
      · simp at hy
        subst hy
        exact g2
    · rw [ifF (by simp; omega)]
      exact .inr ⟨_, rfl, by omega, hp⟩)
  rw [h3]
  exact ⟨r, rfl, h4⟩
theorem sameInts_eq {a b : List Int} (hl : a.length ≤ 1000000000) : laws_sameInts a b = some (decide (a = b)) := by
  unfold laws_sameInts
  by_cases q : a.length = b.length
  · rw [ifF (by simp [q])]
    have := loopM_all (body := fun s' => laws_sameInts_l1 a b s') (good := .inr ()) (bad := .inl false) (fun k => (k : Int)) a.length (fun k => decide (a[k]? = b[k]?)) (fun k hk _ hp => by
      unfold laws_sameInts_l1
      rw [ifT (by simpa using hk), geti_nat, geti_nat, List.getElem?_eq_getElem hk, List.getElem?_eq_getElem (by omega), Option.bind_some, Option.bind_some]
      simp only [decide_eq_true_eq, List.getElem?_eq_getElem hk, List.getElem?_eq_getElem (l := b) (i := k) (by omega), Option.some.injEq] at hp
      rw [ifF (by simp [hp]), wk64 (by omega) (by omega)]
      rfl) (fun k hk _ hp => by
      unfold laws_sameInts_l1
      rw [ifT (by simpa using hk), geti_nat, geti_nat, List.getElem?_eq_getElem hk, List.getElem?_eq_getElem (by omega), Option.bind_some, Option.bind_some]
      simp only [decide_eq_false_iff_not, List.getElem?_eq_getElem hk, List.getElem?_eq_getElem (l := b) (i := k) (by omega), Option.some.injEq] at hp
      rw [ifT (by simpa using hp)]) (fun _ => by
      unfold laws_sameInts_l1
      rw [ifF (by simp)])
    have e0 : ((0 : Nat) : Int) = 0 := rfl
    rw [e0] at this
    rw [this, Option.bind_some]
    by_cases e : a = b
    · subst e
      rw [if_pos (by simp)]
      simp [laws_sameInts_j1]
    · rw [if_neg, decide_eq_false e]
      intro h
      apply e
      apply List.ext_getElem?
      intro k
      by_cases hk : k < a.length
      · have := List.all_eq_true.1 h k (List.mem_range.2 hk)
        simpa using this
      · rw [List.getElem?_eq_none (by omega), List.getElem?_eq_none (by omega)]
  · rw [ifT (by simp; omega)]
    have : ¬ a = b := fun h => q (by rw [h])
    rw [decide_eq_false this]
theorem commL_symm (g : List (List Int)) (a b : Int) : commL g a b = commL g b a := by
  unfold commL commB
  rw [Nat.and_comm]
  congr 1
  have : (decide (0 ≤ a) && decide (a < g.length) && (decide (0 ≤ b) && decide (b < g.length)) && gOk g) = (decide (0 ≤ b) && decide (b < g.length) && (decide (0 ≤ a) && decide (a < g.length)) && gOk g) := by
    congr 1
    exact Bool.and_comm _ _
  rw [this]
theorem basL_symm (g : List (List Int)) (a b : Int) : basL g a b = basL g b a := by
  unfold basL
  rw [commL_symm]
theorem commL_nodup (g : List (List Int)) (a b : Int) : (commL g a b).Nodup := by
  unfold commL
  split
  · exact List.Pairwise.filter _ List.nodup_range
  · simp
theorem basN_mem {g : List (List Int)} (_hg : gOk g = true) {a b : Nat} (_ha : a < g.length) (_hb : b < g.length) {v : Nat} : v ∈ basL g (a : Int) (b : Int) ↔ (v ∈ commL g (a : Int) (b : Int) ∧ ∀ o ∈ commL g (a : Int) (b : Int), o ≠ v → (clo g o).testBit v = false) := by
  unfold basL isBase
  simp only [List.mem_filter, Bool.not_eq_true', List.any_eq_false, Bool.and_eq_true, bne_iff_ne, ne_eq, not_and, Bool.not_eq_true]
section
variable {g : List (List Int)} (hg : gOk g = true) {a b : Nat} (ha : a < g.length) (hb : b < g.length)
include hg ha hb
theorem commB_nat : commB g (a : Int) (b : Int) = true := by
  unfold commB
  simp [hg]
  omega
theorem commN_mem {v : Nat} : v ∈ commL g (a : Int) (b : Int) ↔ (clo g a).testBit v = true ∧ (clo g b).testBit v = true := by
  have := commL_mem (commB_nat hg ha hb) (v := v)
  simpa using this
theorem bas_over {x : Nat} (hx : x ∈ commL g (a : Int) (b : Int)) : ∃ k ∈ basL g (a : Int) (b : Int), (clo g k).testBit x = true := by
  have key : ∀ n x, x ∈ commL g (a : Int) (b : Int) → g.length - x = n → ∃ k ∈ basL g (a : Int) (b : Int), (clo g k).testBit x = true := by
    intro n
    induction n using Nat.strongRecOn with
    | _ n ih =>
      intro x hx hn
      have hxl := (commL_lt hx).2.1
      by_cases q : x ∈ basL g (a : Int) (b : Int)
      · exact ⟨x, q, clo_self hg hxl⟩
      · have : ∃ o ∈ commL g (a : Int) (b : Int), o ≠ x ∧ (clo g o).testBit x = true := by
          apply Classical.byContradiction
          intro hne
          apply q
          rw [basN_mem hg ha hb]
          refine ⟨hx, fun o ho hox => ?_⟩
          cases h : (clo g o).testBit x with
          | false => rfl
          | true => exact absurd ⟨o, ho, hox, h⟩ hne
        obtain ⟨o, ho, hox, hbit⟩ := this
        have hol := (commL_lt ho).2.1
        have := clo_le hg hol hbit
        obtain ⟨k, hk, h2⟩ := ih (g.length - o) (by omega) o ho rfl
        have hkl : k < g.length := (commL_lt ((basN_mem hg ha hb).1 hk).1).2.1
        exact ⟨k, hk, clo_trans hg hkl h2 hbit⟩
  exact key _ x hx rfl
theorem anyBas {x : Nat} : ((basL g (a : Int) (b : Int)).any fun k => (clo g k).testBit x) = ((clo g a).testBit x && (clo g b).testBit x) := by
  rw [Bool.eq_iff_iff, List.any_eq_true, Bool.and_eq_true]
  constructor
  · rintro ⟨k, hk, h⟩
    have := (commN_mem hg ha hb).1 ((basN_mem hg ha hb).1 hk).1
    exact ⟨clo_trans hg ha this.1 h, clo_trans hg hb this.2 h⟩
  · intro h
    obtain ⟨k, hk, h2⟩ := bas_over hg ha hb ((commN_mem hg ha hb).2 h)
    exact ⟨k, hk, h2⟩
theorem bas_one (h : (clo g b).testBit a = true) : basL g (a : Int) (b : Int) = [a] := by
  have hnd := commL_nodup g (a : Int) (b : Int)
  have hmem : a ∈ commL g (a : Int) (b : Int) := (commN_mem hg ha hb).2 ⟨clo_self hg ha, h⟩
  have e : basL g (a : Int) (b : Int) = (commL g (a : Int) (b : Int)).filter (fun v => v == a) := by
    unfold basL
    apply List.filter_congr
    intro v hv
    have hvm := (basN_mem hg ha hb (v := v))
    unfold basL at hvm
    rw [List.mem_filter] at hvm
    rw [Bool.eq_iff_iff]
    constructor
    · intro hi
      have hv2 := (hvm.1 ⟨hv, hi⟩).2 a hmem
      by_cases e : v = a
      · simp [e]
      · have := hv2 (fun h => e h.symm)
        rw [((commN_mem hg ha hb).1 hv).1] at this
        cases this
    · intro hi
      have : v = a := by simpa using hi
      subst this
      refine (hvm.2 ⟨hv, fun o ho hne => ?_⟩).2
      cases q : (clo g o).testBit v with
      | false => rfl
      | true =>
        have h1 := clo_le hg (commL_lt ho).2.1 q
        have h2 := clo_le hg ha ((commN_mem hg ha hb).1 ho).1
        exact absurd (Nat.le_antisymm h2 h1) hne
  rw [e, List.filter_beq, List.Nodup.count hnd, if_pos hmem]
  rfl
end
theorem getB {L : List Nat} {k : Nat} (hk : k < L.length) : geti (ints L) (k : Int) = some ((L[k] : Nat) : Int) := by
  rw [geti_nat]
  unfold ints
  rw [List.getElem?_map, List.getElem?_eq_getElem hk]
  rfl
theorem fnBases_l3 {g : List (List Int)} (hg : gOk g = true) {a b : Nat} (ha : a < g.length) (hb : b < g.length) {x y : Int} (hx : x.tmod (g.length : Int) = a) (hy : y.tmod (g.length : Int) = b) :
    loopM (fun (s' : Int) => laws_FnBases_l3 g x y (ints (basL g a b)) s') (0 : Int) = some (.inr ()) := by
  have hlen : (basL g (a : Int) (b : Int)).length ≤ 64 := by have := basL_len g a b; rwa [ints_len] at this
  have hnd : (basL g (a : Int) (b : Int)).Nodup := by unfold basL; exact List.Pairwise.filter _ (commL_nodup g a b)
  have hgl := gOk_len hg
  have mem : ∀ (i : Nat) (hi : i < (basL g (a : Int) (b : Int)).length), (basL g (a : Int) (b : Int))[i] ∈ commL g (a : Int) (b : Int) := fun i hi => ((basN_mem hg ha hb).1 (List.getElem_mem hi)).1
  refine loopM_at (fun k => (k : Int)) (basL g (a : Int) (b : Int)).length (fun i hi => ?_) (by
    unfold laws_FnBases_l3
    rw [ifF (by rw [ints_len]; simp)])
  have hm := mem i hi
  have hl := (commL_lt hm).2.1
  have hab := (commN_mem hg ha hb).1 hm
  unfold laws_FnBases_l3
  rw [ifT (by rw [ints_len]; simpa using hi), getB hi, Option.bind_some, hx, hy, isAncestorS_eq hg hl ha, Option.bind_some, hab.1]
  simp only [Bool.not_true, Bool.false_eq_true, if_false]
  rw [isAncestorS_eq hg hl hb, Option.bind_some, hab.2]
  simp only [Bool.not_true, Option.bind_some, Bool.false_eq_true, if_false]
  have inner : loopM (fun (s' : Int) => laws_FnBases_l4 g (ints (basL g a b)) (i : Int) s') (0 : Int) = some (.inr ()) := by
    refine loopM_at (fun k => (k : Int)) (basL g (a : Int) (b : Int)).length (fun k hk => ?_) (by
      unfold laws_FnBases_l4
      rw [ifF (by rw [ints_len]; simp)])
    unfold laws_FnBases_l4
    rw [ifT (by rw [ints_len]; simpa using hk)]
    have w : wk .i64 ((k : Int) + 1) = ((k + 1 : Nat) : Int) := by rw [wk64 (by omega) (by omega)]; omega
    by_cases e : i = k
    · subst e
      rw [ifF (by simp), Option.bind_some, ifF (by simp), w]
    · rw [ifT (by simp; omega), getB hi, Option.bind_some, getB hk, Option.bind_some, isAncestorS_eq hg hl (commL_lt (mem k hk)).2.1, Option.bind_some]
      have : (clo g (basL g (a : Int) (b : Int))[k]).testBit (basL g (a : Int) (b : Int))[i] = false := ((basN_mem hg ha hb).1 (List.getElem_mem hi)).2 _ (mem k hk) (fun h => e ((List.getElem_inj hnd).1 h).symm)
      rw [this]
      simp only [Option.bind_some, Bool.false_eq_true, if_false]
      rw [w]
  rw [inner]
  simp only [Option.bind_some, laws_FnBases_j5]
  rw [wk64 (by omega) (by omega)]
  rfl
theorem fnBases_l1 {g : List (List Int)} (hg : gOk g = true) {a b : Nat} (ha : a < g.length) (hb : b < g.length) {x y : Int} (hx : x.tmod (g.length : Int) = a) (hy : y.tmod (g.length : Int) = b) :
    loopM (fun (s' : Int) => laws_FnBases_l1 g x y (ints (basL g a b)) (ints (commL g a b)) s') (0 : Int) = some (.inr ()) := by
  have hlen : (basL g (a : Int) (b : Int)).length ≤ 64 := by have := basL_len g a b; rwa [ints_len] at this
  have hgl := gOk_len hg
  have mem : ∀ (i : Nat) (hi : i < (basL g (a : Int) (b : Int)).length), (basL g (a : Int) (b : Int))[i] ∈ commL g (a : Int) (b : Int) := fun i hi => ((basN_mem hg ha hb).1 (List.getElem_mem hi)).1
  refine loopM_at (fun k => (k : Int)) g.length (fun v hv => ?_) (by
    unfold laws_FnBases_l1
    rw [ifF (by simp)])
  unfold laws_FnBases_l1
  rw [ifT (by simpa using hv), hx, hy, isAncestorS_eq hg hv ha, Option.bind_some]
  have hcom : (if (clo g a).testBit v = true then (spec_IsAncestor g (v : Int) (b : Int)).bind fun x100 => some x100 else some false) = some ((clo g a).testBit v && (clo g b).testBit v) := by
    cases (clo g a).testBit v with
    | true =>
      rw [if_pos rfl, isAncestorS_eq hg hv hb]
      rfl
    | false => rfl
  rw [hcom, Option.bind_some]
  have hund : loopM (fun (s' : Bool × Int) => laws_FnBases_l2 g (ints (basL g a b)) (v : Int) s'.1 s'.2) (false, 0) = some ((basL g (a : Int) (b : Int)).any fun k => (clo g k).testBit v) := by
    have := loopM_at (body := fun (s' : Bool × Int) => laws_FnBases_l2 g (ints (basL g a b)) (v : Int) s'.1 s'.2) (r := (basL g (a : Int) (b : Int)).any fun k => (clo g k).testBit v) (fun k => (((basL g (a : Int) (b : Int)).take k).any fun k => (clo g k).testBit v, (k : Int))) (basL g (a : Int) (b : Int)).length (fun k hk => by
      show laws_FnBases_l2 g (ints (basL g a b)) (v : Int) _ (k : Int) = _
      unfold laws_FnBases_l2
      have w : wk .i64 ((k : Int) + 1) = ((k + 1 : Nat) : Int) := by rw [wk64 (by omega) (by omega)]; omega
      have ht : (basL g (a : Int) (b : Int)).take (k + 1) = (basL g (a : Int) (b : Int)).take k ++ [(basL g (a : Int) (b : Int))[k]] := by rw [List.take_add_one, List.getElem?_eq_getElem hk]; rfl
      rw [ifT (by rw [ints_len]; simpa using hk), w, ht, List.any_append]
      cases ((basL g (a : Int) (b : Int)).take k).any fun k => (clo g k).testBit v with
      | true => rfl
      | false =>
        rw [ifF (by simp), getB hk, Option.bind_some, isAncestorS_eq hg hv (commL_lt (mem k hk)).2.1]
        simp) (by
      show laws_FnBases_l2 g (ints (basL g a b)) (v : Int) _ ((basL g (a : Int) (b : Int)).length : Int) = _
      unfold laws_FnBases_l2
      rw [ifF (by rw [ints_len]; simp), List.take_length])
    simpa using this
  rw [hund, Option.bind_some, anyBas hg ha hb]
  unfold laws_FnBases_j4 laws_FnBases_j3
  have hcl := commL_len g (a : Int) (b : Int)
  rw [ifF (by simp), within_eq (by omega), Option.bind_some]
  have hmem : decide ((v : Int) ∈ ints (commL g (a : Int) (b : Int))) = ((clo g a).testBit v && (clo g b).testBit v) := by
    rw [Bool.eq_iff_iff, decide_eq_true_eq, Bool.and_eq_true, mem_ints]
    constructor
    · rintro ⟨u, hu, h⟩
      have : v = u := by omega
      subst this
      exact (commN_mem hg ha hb).1 hu
    · intro h
      exact ⟨v, (commN_mem hg ha hb).2 h, rfl⟩
  rw [hmem]
  simp only [bne_self_eq_false, Option.bind_some, Bool.false_eq_true, if_false]
  rw [wk64 (by omega) (by omega)]
  rfl
/-- The law. -/
theorem fnBases_true {code : List Int} (h : code.length ≤ 1000000000000000) : laws_FnBases code = some true := by
  unfold laws_FnBases
  rw [big_eq, Option.bind_some]
  by_cases q : (code.length : Int) > 1048576
  · rw [ifT (by simpa using q)]
  rw [ifF (by simpa using q)]
  have hb : code.length ≤ 1000000000 := by omega
  obtain ⟨g, h1, hg, h2, h3⟩ := drawRightGraph_ok hb
  obtain ⟨p, h4, h5, h6⟩ := drawPlaces_ok hb
  have hn0 : ¬ (g.length : Int) = 0 := by omega
  have g0 : geti p 0 = some p[0] := geti_in (by omega) (by omega)
  have g1 : geti p 1 = some p[1] := geti_in (by omega) (by omega)
  rw [h1, Option.bind_some, h4, Option.bind_some, g0, Option.bind_some, chk_in hn0, Option.bind_some, g1, Option.bind_some, Option.bind_some]
  have r0 := tmod_range (h6 p[0] (List.getElem_mem _)) (n := (g.length : Int)) (by omega)
  have r1 := tmod_range (h6 p[1] (List.getElem_mem _)) (n := (g.length : Int)) (by omega)
  generalize p[0] = x at *
  generalize p[1] = y at *
  obtain ⟨a, ha⟩ : ∃ a : Nat, x.tmod (g.length : Int) = a := ⟨(x.tmod (g.length : Int)).toNat, by omega⟩
  obtain ⟨b, hb2⟩ : ∃ b : Nat, y.tmod (g.length : Int) = b := ⟨(y.tmod (g.length : Int)).toNat, by omega⟩
  have hal : a < g.length := by omega
  have hbl : b < g.length := by omega
  have hgl : g.length ≤ 10000000 := by omega
  rw [ha, hb2, basesI_eq hgl, Option.bind_some, commonsI_eq hgl, Option.bind_some, fnBases_l3 hg hal hbl ha hb2, Option.bind_some]
  unfold laws_FnBases_j1
  rw [fnBases_l1 hg hal hbl ha hb2, Option.bind_some]
  unfold laws_FnBases_j2
  have hl := basL_len g (a : Int) (b : Int)
  rw [ha, hb2, basesI_eq hgl, Option.bind_some, ← basL_symm g (a : Int) (b : Int), sameInts_eq (by omega), Option.bind_some]
  simp only [decide_true, if_true]
  rw [isAncestorS_eq hg hal hbl, Option.bind_some]
  cases e : (clo g b).testBit a with
  | false => rfl
  | true =>
    simp only [Bool.not_true, Bool.false_eq_true, if_false]
    rw [sameInts_eq (by omega), bas_one hg hal hbl e]
    simp [ints]
end Go.TV.F
