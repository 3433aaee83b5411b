/- The plain laws. -/
import Derived.Test.YthfhiepgdeghpaaDoorKFnIntentsT4
import Derived.Laws.BitsLemmas
import Derived.Test.YthfhiepgdeghpaaDoorKFnIntentsD
set_option linter.unusedVariables false
set_option linter.unusedSimpArgs false
set_option maxHeartbeats 8000000
set_option maxRecDepth 100000
/- Plain Lean: loops and small steps. -/
namespace Go.TV.F
open Go.TV

theorem wk64 {x : Int} (h1 : -9223372036854775808 ≤ x) (h2 : x < 9223372036854775808) : wk .i64 x = x := by
  simp only [wk, IntKind.wrap, IntKind.bits, IntKind.signed, Bool.true_and, decide_eq_true_eq, Nat.reduceSub, Int.reducePow]
  split
  · rename_i h; simp at h; omega
  · rename_i h; simp at h; omega
theorem wku32 {x : Int} (h1 : 0 ≤ x) (h2 : x < 4294967296) : wk .u32 x = x := by
  simp only [wk, IntKind.wrap, IntKind.bits, IntKind.signed, Bool.true_and, Bool.false_and, decide_eq_true_eq, Bool.false_eq_true, if_false, Nat.reduceSub, Int.reducePow]
  first | omega | (split <;> omega)
theorem wku8 {x : Int} (h1 : 0 ≤ x) (h2 : x < 256) : wk .u8 x = x := by
  simp only [wk, IntKind.wrap, IntKind.bits, IntKind.signed, Bool.true_and, Bool.false_and, decide_eq_true_eq, Bool.false_eq_true, if_false, Nat.reduceSub, Int.reducePow]
  first | omega | (split <;> omega)
theorem wku32_mod (x : Int) : wk .u32 x = x % 4294967296 := by
  simp only [wk, IntKind.wrap, IntKind.bits, IntKind.signed, Bool.false_and, Bool.false_eq_true, if_false, Int.reducePow]
theorem wku8_mod (x : Int) : wk .u8 x = x % 256 := by
  simp only [wk, IntKind.wrap, IntKind.bits, IntKind.signed, Bool.false_and, Bool.false_eq_true, if_false, Int.reducePow]
theorem geti_nat {α : Type} (l : List α) (k : Nat) : geti l (k : Int) = l[k]? := by
  unfold geti
  rw [if_neg (by omega), Int.toNat_natCast]
theorem geti_in {α : Type} {l : List α} {i : Int} (h1 : 0 ≤ i) (h2 : i < l.length) : geti l i = some (l[i.toNat]'(by omega)) := by
  unfold geti
  rw [if_neg (by omega), List.getElem?_eq_getElem]
theorem appn_in {α : Type} {l m : List α} (h : l.length + m.length ≤ 549755813888) : appn l m = some (l ++ m) := by
  unfold appn
  rw [if_pos h]
theorem sapp_in {s t : ByteArray} (h : s.size + t.size ≤ 4611686018427387904) : sapp s t = some (s ++ t) := by
  unfold sapp
  rw [if_pos h]
theorem chk_in {p : Prop} [Decidable p] (h : p) : chk p = some () := by
  unfold chk
  rw [if_pos h]
/-- A loop that goes through known states. -/
theorem loopM_at {σ ρ : Type} {body : σ → Option (σ ⊕ ρ)} {r : ρ} (f : Nat → σ) (n : Nat) (hs : ∀ k, k < n → body (f k) = some (.inl (f (k + 1)))) (he : body (f n) = some (.inr r)) : loopM body (f 0) = some r := by
  have key : ∀ m k, k + m = n → loopM body (f k) = some r := by
    intro m
    induction m with
    | zero => intro k hk; rw [Nat.add_zero] at hk; subst hk; rw [loopM_eq, he]; rfl
    | succ m ih => intro k hk; rw [loopM_eq, hs k (by omega)]; exact ih (k + 1) (by omega)
  exact key n 0 (by omega)
/-- A loop that looks at all, and leaves at the first bad one. -/
theorem loopM_all {σ ρ : Type} {body : σ → Option (σ ⊕ ρ)} {good bad : ρ} (f : Nat → σ) (n : Nat) (p : Nat → Bool) (hs : ∀ k, k < n → (∀ j, j < k → p j = true) → p k = true → body (f k) = some (.inl (f (k + 1))))
    (hb : ∀ k, k < n → (∀ j, j < k → p j = true) → p k = false → body (f k) = some (.inr bad)) (he : (∀ j, j < n → p j = true) → body (f n) = some (.inr good)) : loopM body (f 0) = some (if (List.range n).all p = true then good else bad) := by
  have key : ∀ m k, k + m = n → (∀ j, j < k → p j = true) → loopM body (f k) = some (if (List.range n).all p = true then good else bad) := by
    intro m
    induction m with
    | zero =>
      intro k hk hp
      rw [Nat.add_zero] at hk
      subst hk
      rw [loopM_eq, he hp, if_pos (by simpa using hp)]
      rfl
    | succ m ih =>
      intro k hk hp
      rw [loopM_eq]
      cases q : p k with
      | true =>
        rw [hs k (by omega) hp q]
        refine ih (k + 1) (by omega) (fun j hj => ?_)
        rcases Nat.lt_succ_iff_lt_or_eq.1 hj with h | rfl
        · exact hp j h
        · exact q
      | false =>
        rw [hb k (by omega) hp q, if_neg]
        · rfl
        · intro hq
          have := List.all_eq_true.1 hq k (List.mem_range.2 (by omega))
          rw [q] at this
          cases this
  exact key n 0 (by omega) (fun j hj => by omega)
end Go.TV.F
/- Plain Lean: the loops of the laws' own helpers. -/
namespace Go.TV.F
open Go.TV

end Go.TV.F
/- Plain Lean: graphs of versions. -/
namespace Go.TV.F
open Go.TV

/-! ### Right graphs -/
/-! ### Sets as bits -/
/-! ### Closures -/
/-! ### The reference's way -/
def mark (b : List Bool) (l : List Int) : List Bool := l.foldl (fun (b : List Bool) (x : Int) => if 0 ≤ x ∧ x < b.length then b.set x.toNat true else b) b
def step (g : List (List Int)) (b : List Bool) (v : Nat) : List Bool := if b.getD v false = true then mark b (g.getD v []) else b
end Go.TV.F
/- Plain Lean: two loops, side by side; the check sums. -/
namespace Go.TV.F
open Go.TV
theorem loopM_total2 {σ τ ρ κ : Type} {f : σ → Option (σ ⊕ ρ)} {g : τ → Option (τ ⊕ κ)} (R : σ → τ → Prop) (m : σ → Nat) (Q : ρ → κ → Prop) {s : σ} {t : τ} (h0 : R s t)
    (h : ∀ s t, R s t → (∃ s' t', f s = some (.inl s') ∧ g t = some (.inl t') ∧ R s' t' ∧ m s' < m s) ∨ ∃ r r', f s = some (.inr r) ∧ g t = some (.inr r') ∧ Q r r') :
    ∃ r r', loopM f s = some r ∧ loopM g t = some r' ∧ Q r r' := by
  have key : ∀ n s t, R s t → m s = n → ∃ r r', loopM f s = some r ∧ loopM g t = some r' ∧ Q r r' := by
    intro n
    induction n using Nat.strongRecOn with
    | _ n ih =>
      intro s t hs hm
      rw [loopM_eq f, loopM_eq g]
      rcases h s t hs with ⟨s', t', h1, h2, h3, h4⟩ | ⟨r, r', h1, h2, h3⟩
      · rw [h1, h2]
        exact ih (m s') (by omega) s' t' h3 rfl
      · rw [h1, h2]
        exact ⟨r, r', rfl, rfl, h3⟩
  exact key _ s t h0 rfl
theorem and32 {a b : Nat} (ha : a < 2 ^ 32) (hb : b < 2 ^ 32) : bits .and .u32 a b = ((a &&& b : Nat) : Int) := (bits_nat .u32 32 (by decide) (fun n h0 h1 => wku32 h0 (by simpa using h1)) a b ha hb).1
theorem tmod_nat (a b : Nat) : ((a : Int)).tmod (b : Int) = ((a % b : Nat) : Int) := by
  rw [Int.tmod_eq_emod_of_nonneg (by omega)]
  rfl
theorem tdiv_nat (a b : Nat) : ((a : Int)).tdiv (b : Int) = ((a / b : Nat) : Int) := by
  rw [Int.tdiv_eq_ediv_of_nonneg (by omega)]
  rfl
theorem shr32_1 (a : Nat) : shrI .u32 (a : Int) 1 = ((a / 2 : Nat) : Int) := by
  unfold shrI
  simp [IntKind.bits]
/-! ### Check sums -/
def isW32 (x : Int) : Prop := 0 ≤ x ∧ x < 4294967296
theorem sum_l2 {x k : Int} (hx : isW32 x) : impl_SumMore_l2 x k = spec_SumMore_l2 x k := by
  obtain ⟨n, rfl⟩ : ∃ n : Nat, x = n := ⟨x.toNat, by have := hx.1; omega⟩
  have hn : n < 2 ^ 32 := by have := hx.2; omega
  unfold impl_SumMore_l2 spec_SumMore_l2
  have e1 : bits .and .u32 (n : Int) 1 = ((n : Int)).tmod 2 := by
    rw [show ((1 : Int)) = ((1 : Nat) : Int) from rfl, and32 hn (by decide), show ((2 : Int)) = ((2 : Nat) : Int) from rfl, tmod_nat, Nat.and_one_is_mod]
  have e2 : wk .u32 (((n : Int)).tdiv 2) = shrI .u32 (n : Int) 1 := by
    rw [shr32_1, show ((2 : Int)) = ((2 : Nat) : Int) from rfl, tdiv_nat, wku32 (by omega) (by omega)]
  rw [e1, e2]
theorem w32_xor (x y : Int) : isW32 (bits .xor .u32 x y) := by
  unfold isW32
  show 0 ≤ wk .u32 _ ∧ wk .u32 _ < _
  rw [wku32_mod]
  omega
theorem w32_shr {x : Int} (hx : isW32 x) : isW32 (shrI .u32 x 1) := by
  obtain ⟨n, rfl⟩ : ∃ n : Nat, x = n := ⟨x.toNat, by have := hx.1; omega⟩
  have := hx.2
  rw [shr32_1]
  constructor <;> omega
theorem sum_inner {x : Int} (hx : isW32 x) : ∃ r, loopM (fun (s' : Int × Int) => impl_SumMore_l2 s'.1 s'.2) (x, 0) = some r ∧ loopM (fun (s' : Int × Int) => spec_SumMore_l2 s'.1 s'.2) (x, 0) = some r ∧ isW32 r := by
  obtain ⟨r, r', h1, h2, h3, h4⟩ := loopM_total2 (f := fun (s' : Int × Int) => impl_SumMore_l2 s'.1 s'.2) (g := fun (s' : Int × Int) => spec_SumMore_l2 s'.1 s'.2) (fun s t => s = t ∧ isW32 s.1 ∧ 0 ≤ s.2 ∧ s.2 ≤ 8) (fun s => (8 - s.2).toNat) (fun r r' => r = r' ∧ isW32 r)
    (s := (x, 0)) (t := (x, 0)) ⟨rfl, hx, by simp, by simp⟩ (fun s t hs => by
    obtain ⟨v, k⟩ := s
    obtain ⟨rfl, hv, h0, h8⟩ := hs
    simp only at hv h0 h8 ⊢
    rw [← sum_l2 hv]
    unfold impl_SumMore_l2
    by_cases q : k < 8
    · rw [ifT (by simpa using q), wk64 (x := k + 1) (by omega) (by omega)]
      split
      · exact .inl ⟨_, _, rfl, rfl, ⟨rfl, w32_xor _ _, by simp only; omega, by simp only; omega⟩, by simp only; omega⟩
      · exact .inl ⟨_, _, rfl, rfl, ⟨rfl, w32_shr hv, by simp only; omega, by simp only; omega⟩, by simp only; omega⟩
    · rw [ifF (by simpa using q)]
      exact .inr ⟨_, _, rfl, rfl, rfl, hv⟩)
  subst h3
  exact ⟨r, h1, h2, h4⟩
theorem sidx_in {s : ByteArray} {k : Nat} (h : k < s.size) : ∃ b : Nat, sidx s (k : Int) = some (b : Int) ∧ b < 256 := by
  unfold sidx
  rw [if_neg (by omega), Int.toNat_natCast, if_pos h]
  exact ⟨_, rfl, UInt8.toNat_lt _⟩
theorem sumMore_eq {x : Int} (hx : isW32 x) {text : ByteArray} (ht : text.size ≤ 1000000000) : ∃ r, impl_SumMore x text = some r ∧ spec_SumMore x text = some r ∧ isW32 r := by
  unfold impl_SumMore spec_SumMore
  obtain ⟨r, r', h1, h2, h3, h4⟩ := loopM_total2 (f := fun (s' : Int × Int) => impl_SumMore_l1 text s'.1 s'.2) (g := fun (s' : Int × Int) => spec_SumMore_l1 text s'.1 s'.2) (fun s t => s = t ∧ isW32 s.1 ∧ 0 ≤ s.2 ∧ s.2 ≤ text.size) (fun s => (text.size - s.2).toNat) (fun r r' => r = r' ∧ isW32 r)
    (s := (x, 0)) (t := (x, 0)) ⟨rfl, hx, by simp, by simp⟩ (fun s t hs => by
    obtain ⟨v, k⟩ := s
    obtain ⟨rfl, hv, h0, h8⟩ := hs
    simp only at hv h0 h8 ⊢
    obtain ⟨k, rfl⟩ : ∃ n : Nat, k = n := ⟨k.toNat, by omega⟩
    unfold impl_SumMore_l1 spec_SumMore_l1
    by_cases q : k < text.size
    · rw [ifT (by simpa using q), ifT (by simpa using q)]
      obtain ⟨b, hb, _⟩ := sidx_in q
      rw [hb, Option.bind_some, Option.bind_some]
      obtain ⟨z, g1, g2, g3⟩ := sum_inner (w32_xor v (wk .u32 (b : Int)))
      rw [g1, g2, Option.bind_some, Option.bind_some]
      unfold impl_SumMore_j2 spec_SumMore_j2
      rw [wk64 (by omega) (by omega)]
      exact .inl ⟨_, _, rfl, rfl, ⟨rfl, g3, by simp only; omega, by simp only; omega⟩, by simp only; omega⟩
    · rw [ifF (by simpa using q), ifF (by simpa using q)]
      exact .inr ⟨_, _, rfl, rfl, rfl, hv⟩)
  subst h3
  rw [h1, h2]
  exact ⟨r, rfl, rfl, h4⟩
theorem sumOf_eq {text : ByteArray} (ht : text.size ≤ 1000000000) : ∃ r, impl_SumOf text = some r ∧ spec_SumOf text = some r ∧ isW32 r := by
  obtain ⟨r, h1, h2, h3⟩ := sumMore_eq (x := 4294967295) ⟨by decide, by decide⟩ ht
  refine ⟨r, ?_, ?_, h3⟩
  · unfold impl_SumOf
    rw [h1]
    rfl
  · unfold spec_SumOf
    rw [h2]
    rfl
end Go.TV.F
/- Plain Lean: a sealed text. -/
namespace Go.TV.F
open Go.TV
theorem subL_in {s : ByteArray} {lo : Int} (h0 : 0 ≤ lo) (h : lo ≤ s.size) : subL s lo = some (s.extract lo.toNat s.size) := by
  unfold subL
  rw [if_neg (by omega), if_pos (by omega)]
theorem subH_in {s : ByteArray} {hi : Int} (h0 : 0 ≤ hi) (h : hi ≤ s.size) : subH s hi = some (s.extract 0 hi.toNat) := by
  unfold subH
  rw [if_neg (by omega), if_pos (by omega)]
theorem sub2_in {s : ByteArray} {lo hi : Int} (h0 : 0 ≤ lo) (h1 : lo ≤ hi) (h : hi ≤ s.size) : sub2 s lo hi = some (s.extract lo.toNat hi.toNat) := by
  unfold sub2
  rw [if_neg (by omega), if_neg (by omega), if_pos (by omega)]
/-- What is left of a sealed text. -/
theorem unsealed_eq {text : ByteArray} (ht : text.size ≤ 1000000000) : ∃ t ok, impl_Unsealed text = some (t, ok) ∧ spec_Unsealed text = some (t, ok) ∧ t.size ≤ 60000 := by
  unfold impl_Unsealed spec_Unsealed
  rw [wk64 (x := (text.size : Int) - 4) (by omega) (by omega)]
  by_cases q : (text.size : Int) - 4 < 0
  · rw [ifT (by simpa using q)]
    exact ⟨_, _, rfl, rfl, by decide⟩
  rw [ifF (by simpa using q)]
  simp only [Option.bind_some]
  by_cases q2 : (text.size : Int) - 4 > 60000
  · have q2' : decide ((text.size : Int) - 4 > 60000) = true := by simpa using q2
    rw [q2']
    exact ⟨_, _, rfl, rfl, by decide⟩
  have q2' : decide ((text.size : Int) - 4 > 60000) = false := by simpa using q2
  rw [q2']
  simp only [Bool.false_eq_true, if_false]
  rw [subL_in (by omega) (by omega), subH_in (by omega) (by omega)]
  simp only [Option.bind_some]
  have hsz : (text.extract 0 ((text.size : Int) - 4).toNat).size ≤ 60000 := by
    rw [ByteArray.size_extract]
    omega
  obtain ⟨r, h1, h2, h3⟩ := sumOf_eq (text := text.extract 0 ((text.size : Int) - 4).toNat) (by omega)
  unfold impl_sumText spec_l02Four
  rw [h1, h2]
  simp only [Option.bind_some]
  generalize mkS _ = u
  generalize text.extract ((text.size : Int) - 4).toNat text.size = v
  have e : (!(u.toList == v.toList)) = (!(v.toList == u.toList)) := by
    rw [Bool.beq_comm]
  rw [e]
  split
  · exact ⟨_, _, rfl, rfl, by decide⟩
  · exact ⟨_, _, rfl, rfl, hsz⟩
end Go.TV.F
/- Plain Lean: bytes; lines that are right. -/
namespace Go.TV.F
open Go.TV
theorem wkS (k : Nat) (h : k < 1000000000) : wk .i64 ((k : Int) + 1) = ((k + 1 : Nat) : Int) := by rw [wk64 (by omega) (by omega)]; omega
theorem toList_loop (bs : ByteArray) : ∀ (m i : Nat) (r : List UInt8), i + m = bs.size → ByteArray.toList.loop bs i r = r.reverse ++ bs.data.toList.drop i
  | 0, i, r, h => by
    rw [ByteArray.toList.loop, if_neg (by omega), List.drop_eq_nil_of_le (by show bs.data.toList.length ≤ i; have : bs.data.toList.length = bs.size := rfl; omega), List.append_nil]
  | m + 1, i, r, h => by
    have hi : i < bs.data.toList.length := by have : bs.data.toList.length = bs.size := rfl; omega
    rw [ByteArray.toList.loop, if_pos (by omega), toList_loop bs m (i + 1) _ (by omega), List.drop_eq_getElem_cons hi]
    have e : bs.get! i = bs.data.toList[i] := by
      show bs.data[i]! = _
      rw [getElem!_pos bs.data i (by simpa using hi)]
      simp
    rw [e]
    simp
theorem toList_eq (bs : ByteArray) : bs.toList = bs.data.toList := by
  unfold ByteArray.toList
  rw [toList_loop bs bs.size 0 [] (by omega)]
  simp
/-- The bytes of a text, as numbers. -/
def nb (s : ByteArray) : List Nat := s.data.toList.map UInt8.toNat
theorem nb_len (s : ByteArray) : (nb s).length = s.size := by simp [nb]
theorem nb_inj {s t : ByteArray} (h : nb s = nb t) : s = t := by
  have : s.data.toList = t.data.toList := List.map_inj_right (fun a b hab => UInt8.toNat_inj.1 hab) |>.1 h
  exact ByteArray.ext (Array.toList_inj.1 this)
theorem beq_nb (s t : ByteArray) : (s.toList == t.toList) = decide (nb s = nb t) := by
  rw [toList_eq, toList_eq]
  by_cases h : nb s = nb t
  · have := nb_inj h
    subst this
    simp
  · rw [decide_eq_false h, beq_eq_false_iff_ne]
    intro he
    exact h (by unfold nb; rw [he])
theorem nb_lt {s : ByteArray} {x : Nat} (h : x ∈ nb s) : x < 256 := by
  obtain ⟨b, _, rfl⟩ := List.mem_map.1 h
  exact UInt8.toNat_lt b
theorem sidx_nb {s : ByteArray} {k : Nat} (h : k < s.size) : ∃ b : Nat, sidx s (k : Int) = some (b : Int) ∧ (nb s)[k]? = some b ∧ b < 256 := by
  unfold sidx
  rw [if_neg (by omega), Int.toNat_natCast, if_pos h]
  have hk : k < s.data.size := h
  refine ⟨(s.data[k]).toNat, ?_, ?_, UInt8.toNat_lt _⟩
  · unfold bt
    congr 2
    rw [Array.getD_eq_getD_getElem?, Array.getElem?_eq_getElem hk]
    rfl
  · simp [nb, hk, Array.getElem?_eq_getElem hk]
theorem nb_extract (s : ByteArray) (a b : Nat) : nb (s.extract a b) = ((nb s).drop a).take (b - a) := by
  have : (s.extract a b).data = s.data.extract a b := ByteArray.data_extract
  unfold nb
  rw [this, Array.toList_extract]
  simp [List.extract]
theorem nb_mkS {l : List Nat} (h : ∀ x ∈ l, x < 256) : nb (mkS (l.map fun x : Nat => (x : Int))) = l := by
  unfold nb mkS
  simp only [List.map_map]
  conv => rhs; rw [← List.map_id l]
  apply List.map_congr_left
  intro x hx
  have := h x hx
  simp
  omega
theorem nb_append (s t : ByteArray) : nb (s ++ t) = nb s ++ nb t := by
  unfold nb
  rw [ByteArray.data_append]
  simp
theorem mkS_size (l : List Int) : (mkS l).size = l.length := by
  show (mkS l).data.size = _
  simp [mkS]
theorem all_range {α : Type} (l : List α) (p : α → Bool) : ((List.range l.length).all fun k => (l[k]?.map p).getD true) = l.all p := by
  rw [Bool.eq_iff_iff, List.all_eq_true, List.all_eq_true]
  constructor
  · intro h x hx
    obtain ⟨k, hk, rfl⟩ := List.getElem_of_mem hx
    have := h k (List.mem_range.2 hk)
    rw [List.getElem?_eq_getElem hk] at this
    exact this
  · intro h k hk
    rw [List.getElem?_eq_getElem (List.mem_range.1 hk)]
    exact h _ (List.getElem_mem _)
end Go.TV.F
/- Plain Lean: numbers of seven bits a byte. -/
namespace Go.TV.F
open Go.TV
/-- The bytes of a number, seven bits a byte. -/
def encL (n : Nat) : List Nat := if h : n ≤ 127 then [n] else (n % 128 + 128) :: encL (n / 128)
termination_by n
decreasing_by omega
def valL : List Nat → Nat
  | [] => 0
  | c :: l => c % 128 + 128 * valL l
theorem encL_lo {n : Nat} (h : n ≤ 127) : encL n = [n] := by rw [encL, dif_pos h]
theorem encL_hi {n : Nat} (h : ¬ n ≤ 127) : encL n = (n % 128 + 128) :: encL (n / 128) := by rw [encL, dif_neg h]
theorem valL_enc : ∀ n : Nat, valL (encL n) = n := by
  intro n
  induction n using Nat.strongRecOn with
  | _ n ih =>
    by_cases h : n ≤ 127
    · rw [encL_lo h]
      simp only [valL]
      omega
    · rw [encL_hi h, valL, ih (n / 128) (by omega)]
      omega
theorem valL_snoc (l : List Nat) (c : Nat) : valL (l ++ [c]) = valL l + c % 128 * 128 ^ l.length := by
  induction l with
  | nil => simp [valL]
  | cons x l ih =>
    rw [List.cons_append, valL, ih, valL, List.length_cons, Nat.pow_succ, Nat.mul_add]
    have : 128 * (c % 128 * 128 ^ l.length) = c % 128 * (128 ^ l.length * 128) := by
      rw [Nat.mul_comm, Nat.mul_assoc]
    omega
theorem valL_lt (l : List Nat) : valL l < 128 ^ l.length := by
  induction l with
  | nil => simp [valL]
  | cons x l ih =>
    rw [valL, List.length_cons, Nat.pow_succ]
    omega
theorem valL_pos {l : List Nat} {c : Nat} (h0 : c ≠ 0) (h1 : c < 128) : 0 < valL (l ++ [c]) := by
  rw [valL_snoc, Nat.mod_eq_of_lt h1]
  have := Nat.pow_pos (n := l.length) (show 0 < 128 by decide)
  have := Nat.mul_pos (Nat.pos_of_ne_zero h0) this
  omega
theorem enc_val_good : ∀ (l : List Nat) {c : Nat}, c ≠ 0 → c < 128 → (∀ x ∈ l, 128 ≤ x ∧ x < 256) → encL (valL (l ++ [c])) = l ++ [c]
  | [], c, _, h1, _ => by
    have e : valL ([] ++ [c]) = c := by simp only [List.nil_append, valL]; omega
    rw [e, encL_lo (by omega)]
    rfl
  | x :: l, c, h0, h1, hl => by
    have hx := hl x (by simp)
    have hp := valL_pos (l := l) h0 h1
    have ih := enc_val_good l h0 h1 (fun y hy => hl y (by simp [hy]))
    rw [List.cons_append, valL, encL_hi (by omega)]
    have e1 : (x % 128 + 128 * valL (l ++ [c])) % 128 + 128 = x := by omega
    have e2 : (x % 128 + 128 * valL (l ++ [c])) / 128 = valL (l ++ [c]) := by omega
    rw [e1, e2, ih]
theorem enc_last0 : ∀ (n : Nat) (l : List Nat), encL n = l ++ [0] → l = [] := by
  intro n
  induction n using Nat.strongRecOn with
  | _ n ih =>
    intro l h
    by_cases q : n ≤ 127
    · rw [encL_lo q] at h
      cases l with
      | nil => rfl
      | cons x l =>
        have := congrArg List.length h
        simp at this
    · rw [encL_hi q] at h
      cases l with
      | nil => rfl
      | cons x l =>
        rw [List.cons_append] at h
        injection h with h1 h2
        have e := ih (n / 128) (by omega) l h2
        subst e
        have := congrArg valL h2
        rw [valL_enc] at this
        simp only [List.nil_append, valL] at this
        omega
/-- Bytes are those of their number just when they are as few as can be. -/
theorem enc_val {l : List Nat} {c : Nat} (h1 : c < 128) (hl : ∀ x ∈ l, 128 ≤ x ∧ x < 256) : encL (valL (l ++ [c])) = l ++ [c] ↔ ¬ (c = 0 ∧ l ≠ []) := by
  constructor
  · rintro h ⟨rfl, hn⟩
    exact hn (enc_last0 _ _ h)
  · intro h
    by_cases h0 : c = 0
    · have : l = [] := by
        by_cases q : l = []
        · exact q
        · exact absurd ⟨h0, q⟩ h
      subst this
      subst h0
      rw [show valL ([] ++ [0]) = 0 from rfl, encL_lo (by omega)]
      rfl
    · exact enc_val_good l h0 h1 hl
theorem encL_byte : ∀ (n : Nat) (x : Nat), x ∈ encL n → x < 256 := by
  intro n
  induction n using Nat.strongRecOn with
  | _ n ih =>
    intro x hx
    by_cases q : n ≤ 127
    · rw [encL_lo q] at hx
      simp at hx
      omega
    · rw [encL_hi q] at hx
      rcases List.mem_cons.1 hx with rfl | h
      · omega
      · exact ih (n / 128) (by omega) x h
end Go.TV.F
/- Plain Lean: numbers and texts read. -/
namespace Go.TV.F
open Go.TV
def encS (n : Nat) : ByteArray := mkS ((encL n).map fun x : Nat => (x : Int))
theorem nb_encS (n : Nat) : nb (encS n) = encL n := nb_mkS (encL_byte n)
theorem var_loop : ∀ (n : Nat) (out : List Int), out.length + n ≤ 68719476736 → ∃ (c : Int) (o : List Int), loopM (fun (s' : Int × (List Int)) => spec_l01Var_l1 s'.1 s'.2) ((n : Int), out) = some (c, o) ∧ 0 ≤ c ∧ c ≤ 127 ∧ o ++ [c] = out ++ (encL n).map (fun x : Nat => (x : Int)) ∧ o.length ≤ 68719476736 := by
  intro n
  induction n using Nat.strongRecOn with
  | _ n ih =>
    intro out h
    rw [loopM_eq]
    simp only [spec_l01Var_l1]
    by_cases q : n ≤ 127
    · rw [ifF (by simp; omega)]
      refine ⟨_, _, rfl, by omega, by omega, ?_, by omega⟩
      rw [encL_lo q]
      rfl
    · rw [ifT (by simp; omega), show (128 : Int) = ((128 : Nat) : Int) from rfl, tmod_nat, tdiv_nat, wk64 (x := ((n % 128 : Nat) : Int) + ((128 : Nat) : Int)) (by omega) (by omega), wku8 (by omega) (by omega), appn_in (by simp; omega)]
      simp only [Option.bind_some, List.append_eq]
      rw [wk64 (x := ((n / 128 : Nat) : Int)) (by omega) (by omega)]
      obtain ⟨c, o, h1, h2, h3, h4, h5⟩ := ih (n / 128) (by omega) (out ++ [((n % 128 : Nat) : Int) + ((128 : Nat) : Int)]) (by simp; omega)
      refine ⟨c, o, h1, h2, h3, ?_, h5⟩
      rw [h4, encL_hi q]
      simp
theorem l01Var_eq {n : Nat} (h : n ≤ 34359738368) : spec_l01Var (n : Int) = some (encS n) := by
  unfold spec_l01Var
  obtain ⟨c, o, h1, h2, h3, h4, h5⟩ := var_loop n [] (by simp; omega)
  rw [h1]
  simp only [Option.bind_some]
  unfold spec_l01Var_j1
  rw [wku8 h2 (by omega), appn_in (by simp; omega), Option.bind_some, h4]
  rfl
end Go.TV.F
/- Plain Lean: numbers read. -/
namespace Go.TV.F
open Go.TV
/-- A number, read. -/
theorem readVar_eq {text : ByteArray} (ht : text.size ≤ 1000000000) {a : Nat} (ha : a ≤ text.size) : ∃ (n next : Nat) (ok : Bool), impl_ReadVar text (a : Int) = some ((n : Int), (next : Int), ok) ∧ spec_ReadVar text (a : Int) = some ((n : Int), (next : Int), ok) ∧
    n ≤ 1000000000 ∧ (ok = true → a < next ∧ next ≤ text.size ∧ ((nb text).drop a).take (next - a) = encL n) := by
  unfold impl_ReadVar spec_ReadVar
  rw [ifF (by simp)]
  simp only [Option.bind_some]
  rw [ifF (by simp; omega)]
  have hin : spec_l01In (a : Int) 0 (text.size : Int) = some true := by
    unfold spec_l01In
    rw [ifT (by simp)]
    simp
    omega
  rw [hin, Option.bind_some, ifF (by simp)]
  have hnl := nb_len text
  obtain ⟨r, r', h1, h2, h3⟩ := loopM_total2 (f := fun (s' : Int × Int × Int) => impl_ReadVar_l1 text (a : Int) s'.1 s'.2.1 s'.2.2) (g := fun (s' : Int × Int × Int) => spec_ReadVar_l1 text (a : Int) s'.1 s'.2.1 s'.2.2)
    (fun s t => ∃ k : Nat, k ≤ 5 ∧ a + k ≤ text.size ∧ s = (((valL (((nb text).drop a).take k) : Nat) : Int), ((128 ^ k : Nat) : Int), (k : Int)) ∧ t = (((valL (((nb text).drop a).take k) : Nat) : Int), ((128 ^ k : Nat) : Int), ((a + k : Nat) : Int)) ∧ ∀ x ∈ ((nb text).drop a).take k, 128 ≤ x ∧ x < 256)
    (fun s => (5 - s.2.2).toNat) (fun r r' => r = r' ∧ (r = .inr () ∨ r = .inl (0, 0, false) ∨ ∃ n next : Nat, r = .inl ((n : Int), (next : Int), true) ∧ n ≤ 1000000000 ∧ a < next ∧ next ≤ text.size ∧ ((nb text).drop a).take (next - a) = encL n))
    (s := (0, 1, 0)) (t := (0, 1, (a : Int))) ⟨0, by omega, by omega, by simp [valL], by simp [valL], by simp⟩ (fun s t hs => by
    obtain ⟨k, hk5, hks, rfl, rfl, hall⟩ := hs
    simp only
    unfold impl_ReadVar_l1 spec_ReadVar_l1
    have e1 : wk .i64 ((a : Int) + (k : Int)) = ((a + k : Nat) : Int) := by rw [wk64 (by omega) (by omega)]; omega
    have e2 : wk .i64 ((a : Int) + 5) = ((a + 5 : Nat) : Int) := by rw [wk64 (by omega) (by omega)]; omega
    rw [e1, e2]
    have c1 : (if decide ((k : Int) < 5) = true then some (decide (((a + k : Nat) : Int) < (text.size : Int))) else some false) = some (decide (k < 5 ∧ a + k < text.size)) := by
      by_cases q : k < 5
      · rw [ifT (by simp; omega)]
        congr 1
        simp [q]
        omega
      · rw [ifF (by simp; omega)]
        simp [q]
    have c2 : (if decide (((a + k : Nat) : Int) < (text.size : Int)) = true then some (decide (((a + k : Nat) : Int) < ((a + 5 : Nat) : Int))) else some false) = some (decide (k < 5 ∧ a + k < text.size)) := by
      by_cases q : a + k < text.size
      · rw [ifT (by simp; omega)]
        congr 1
        simp [q]
        omega
      · rw [ifF (by simp; omega)]
        simp [q]
    rw [c1, c2]
    simp only [Option.bind_some]
    by_cases q : k < 5 ∧ a + k < text.size
    · obtain ⟨q1, q2⟩ := q
      rw [ifT (by simp [q1, q2]), ifT (by simp [q1, q2])]
      obtain ⟨b, g1, g2, g3⟩ := sidx_nb q2
      rw [g1]
      simp only [Option.bind_some]
      have hb : wk .i64 (b : Int) = (b : Int) := wk64 (by omega) (by omega)
      rw [hb]
      have hpw : 128 ^ k ≤ 128 ^ 4 := Nat.pow_le_pow_right (by omega) (by omega)
      have hpw' : 128 ^ k ≤ 268435456 := by simpa using hpw
      have hlen : (((nb text).drop a).take k).length = k := by simp; omega
      have hval := valL_lt (((nb text).drop a).take k)
      rw [hlen] at hval
      have hmul : b % 128 * 128 ^ k ≤ 127 * 268435456 := Nat.mul_le_mul (by omega) hpw'
      obtain ⟨M, hM⟩ : ∃ M, M = b % 128 * 128 ^ k := ⟨_, rfl⟩
      rw [← hM] at hmul
      have e3 : wk .i64 (((b : Int)).tmod 128 * ((128 ^ k : Nat) : Int)) = (M : Int) := by
        rw [show (128 : Int) = ((128 : Nat) : Int) from rfl, tmod_nat, ← Int.natCast_mul, ← hM, wk64 (by omega) (by omega)]
      have htk : ((nb text).drop a).take (k + 1) = ((nb text).drop a).take k ++ [b] := by
        rw [List.take_add_one, List.getElem?_drop, g2]
        rfl
      have hv1 : valL (((nb text).drop a).take (k + 1)) = valL (((nb text).drop a).take k) + M := by
        rw [htk, valL_snoc, hlen, ← hM]
      have e4 : wk .i64 (((valL (((nb text).drop a).take k) : Nat) : Int) + (M : Int)) = ((valL (((nb text).drop a).take (k + 1)) : Nat) : Int) := by
        rw [hv1, wk64 (by omega) (by omega)]
        omega
      have e5 : wk .i64 (((128 ^ k : Nat) : Int) * 128) = ((128 ^ (k + 1) : Nat) : Int) := by
        rw [wk64 (by omega) (by omega), Nat.pow_succ]
        omega
      have e6 : wk .i64 ((k : Int) + 1) = ((k + 1 : Nat) : Int) := by rw [wk64 (by omega) (by omega)]; omega
      have e7 : wk .i64 (((a + k : Nat) : Int) + 1) = ((a + (k + 1) : Nat) : Int) := by rw [wk64 (by omega) (by omega)]; omega
      simp only [e3, e4, e5, e6, e7]
      obtain ⟨v, hv⟩ : ∃ v, v = valL (((nb text).drop a).take (k + 1)) := ⟨_, rfl⟩
      rw [← hv] at hv1 ⊢
      have hvb : v ≤ 34359738368 := by omega
      by_cases qb : b < 128
      · have d0 : decide ((b : Int) ≥ 128) = false := decide_eq_false (by omega)
        have d0' : decide ((b : Int) < 128) = true := decide_eq_true (by omega)
        simp only [d0, d0', Bool.false_eq_true, if_false, if_true]
        have hcan := enc_val (l := ((nb text).drop a).take k) qb hall
        rw [← htk, ← hv] at hcan
        have hsub : sub2 text (a : Int) ((a + (k + 1) : Nat) : Int) = some (text.extract a (a + (k + 1))) := by
          rw [sub2_in (by omega) (by omega) (by omega)]
          rfl
        have hne : (((nb text).drop a).take k ≠ []) ↔ k > 0 := by
          rw [← List.length_pos_iff, hlen]
        have d2 : (if ((b : Int) == 0) = true then some (decide ((k : Int) > 0)) else some false) = some (decide (b = 0 ∧ k > 0)) := by
          by_cases qz : b = 0
          · rw [ifT (by simp [qz]), show decide (b = 0 ∧ k > 0) = decide ((k : Int) > 0) from by simp [qz]]
          · rw [ifF (by simpa using qz)]
            simp [qz]
        rw [d2]
        simp only [Option.bind_some]
        by_cases qn : v > 1000000000
        · have d1 : decide ((v : Int) > 1000000000) = true := decide_eq_true (by omega)
          refine .inr ⟨.inl (0, 0, false), .inl (0, 0, false), ?_, ?_, rfl, .inr (.inl rfl)⟩
          · by_cases q0 : b = 0 ∧ k > 0
            · simp only [decide_eq_true q0, d1, if_true, Option.bind_some]
            · simp only [decide_eq_false q0, d1, if_true, if_false, Bool.false_eq_true, Option.bind_some]
          · simp only [d1, if_true, Option.bind_some]
        · have d1 : decide ((v : Int) > 1000000000) = false := decide_eq_false (by omega)
          simp only [d1, Bool.false_eq_true, if_false]
          rw [l01Var_eq hvb]
          simp only [Option.bind_some]
          rw [hsub]
          simp only [Option.bind_some]
          rw [beq_nb, nb_encS, nb_extract, show a + (k + 1) - a = k + 1 by omega]
          by_cases q0 : b = 0 ∧ k > 0
          · have hc : ¬ encL v = ((nb text).drop a).take (k + 1) := fun h => (hcan.1 h) ⟨q0.1, hne.2 q0.2⟩
            simp only [decide_eq_true q0, decide_eq_false hc, if_true, Option.bind_some, Bool.not_false]
            exact .inr ⟨_, _, rfl, rfl, rfl, .inr (.inl rfl)⟩
          · have hc := hcan.2 (fun h => q0 ⟨h.1, hne.1 h.2⟩)
            simp only [decide_eq_false q0, decide_eq_true hc, Bool.false_eq_true, if_false, Option.bind_some, Bool.not_true]
            refine .inr ⟨_, _, rfl, rfl, rfl, .inr (.inr ⟨_, _, rfl, by omega, by omega, by omega, ?_⟩)⟩
            rw [show a + (k + 1) - a = k + 1 by omega]
            exact hc.symm
      · have d0 : decide ((b : Int) ≥ 128) = true := decide_eq_true (by omega)
        have d0' : decide ((b : Int) < 128) = false := decide_eq_false (by omega)
        simp only [d0, d0', Bool.false_eq_true, if_false, if_true]
        refine .inl ⟨_, _, rfl, rfl, ⟨k + 1, by omega, by omega, by rw [← hv], by rw [← hv], ?_⟩, ?_⟩
        · intro x hx
          rw [htk] at hx
          rcases List.mem_append.1 hx with hx | hx
          · exact hall x hx
          · simp at hx
            omega
        · simp only
          omega
    · rw [ifF (by simpa using q), ifF (by simpa using q)]
      exact .inr ⟨_, _, rfl, rfl, rfl, .inl rfl⟩)
  obtain ⟨rfl, h4⟩ := h3
  rw [h1, h2]
  rcases h4 with rfl | rfl | ⟨n, next, rfl, g1, g2, g3, g4⟩
  · exact ⟨0, 0, false, rfl, rfl, by omega, fun h => by cases h⟩
  · exact ⟨0, 0, false, rfl, rfl, by omega, fun h => by cases h⟩
  · exact ⟨n, next, true, rfl, rfl, g1, fun _ => ⟨g2, g3, g4⟩⟩
end Go.TV.F
/- Plain Lean: the program's scanner and the reference's, side by side. -/
namespace Go.TV.F
open Go.TV
/-- The bytes from a to b. -/
def seg (text : ByteArray) (a b : Nat) : List Nat := ((nb text).drop a).take (b - a)
theorem seg_self (text : ByteArray) (a : Nat) : seg text a a = [] := by simp [seg]
theorem seg_app {text : ByteArray} {a b c : Nat} (h1 : a ≤ b) (h2 : b ≤ c) : seg text a b ++ seg text b c = seg text a c := by
  unfold seg
  rw [show c - a = (b - a) + (c - b) by omega, List.take_add, List.drop_drop]
  congr 3
  omega
theorem seg_extract (text : ByteArray) (a b : Nat) : nb (text.extract a b) = seg text a b := nb_extract text a b
/-- Both at one place. -/
structure Sim (text : ByteArray) (s : T_impl_scanner) (c : T_spec_l08Cur) : Prop where
  st : s.text = text
  ct : c.text = text
  bad : s.bad = c.bad
  at_ : ∃ a b : Nat, s.at_ = a ∧ c.at_ = b ∧ a ≤ text.size ∧ b ≤ text.size ∧ (s.bad = false → a = b)
/-- What was read. -/
def Rd (text : ByteArray) (s s' : T_impl_scanner) (l : List Nat) : Prop := ∃ a b : Nat, s.at_ = a ∧ s'.at_ = b ∧ a ≤ b ∧ b ≤ text.size ∧ seg text a b = l
theorem Rd.trans {text : ByteArray} {s1 s2 s3 : T_impl_scanner} {l m : List Nat} (h : Rd text s1 s2 l) (k : Rd text s2 s3 m) : Rd text s1 s3 (l ++ m) := by
  obtain ⟨a, b, h1, h2, h3, h4, h5⟩ := h
  obtain ⟨b', c, k1, k2, k3, k4, k5⟩ := k
  have : b = b' := by omega
  subst this
  exact ⟨a, c, h1, k2, by omega, k4, by rw [← seg_app h3 k3, h5, k5]⟩
theorem Rd.refl {text : ByteArray} {s : T_impl_scanner} {a : Nat} (h : s.at_ = a) (h2 : a ≤ text.size) : Rd text s s [] := ⟨a, a, h, h, Nat.le_refl _, h2, seg_self text a⟩
section
variable {text : ByteArray} (ht : text.size ≤ 60000)
theorem num_sim (ht : text.size ≤ 60000) {s : T_impl_scanner} {c : T_spec_l08Cur} (h : Sim text s c) : ∃ (n : Nat) (s' : T_impl_scanner) (m : Nat), impl_scanner_number s = some ((n : Int), s') ∧ n ≤ 1000000000 ∧ (s'.bad = true → n = 0) ∧
    (∀ most : Nat, most ≤ 1000000000 → ∃ c', spec_l08Var c (most : Int) = some (((if n ≤ most then n else 0 : Nat) : Int), c') ∧ (n ≤ most → Sim text s' c') ∧ (¬ n ≤ most → c'.bad = true ∧ c'.text = text ∧ ∃ b : Nat, c'.at_ = b ∧ b ≤ text.size)) ∧
    (∃ a : Nat, s'.at_ = a ∧ a ≤ text.size) ∧ s'.text = text ∧ (s'.bad = false → s.bad = false ∧ Rd text s s' (encL n)) := by
  obtain ⟨st, sa, sb⟩ := s
  obtain ⟨ct, ca, cb⟩ := c
  obtain ⟨h1, h2, h3, a, b, h4, h5, h6, h7, h8⟩ := h
  simp only at h1 h2 h3 h4 h5 h8
  subst h3 h4 h5
  obtain rfl : ct = st := h2.trans h1.symm
  subst h1
  obtain ⟨n, next, ok, g1, g2, g3, g4⟩ := readVar_eq (text := ct) (by omega) h6
  cases sb with
  | true =>
    refine ⟨0, ⟨ct, a, true⟩, 0, ?_, by omega, fun _ => rfl, ?_, ⟨a, rfl, h6⟩, rfl, fun h => by cases h⟩
    · unfold impl_scanner_number
      simp only [g1, Option.bind_some, if_true]
      rfl
    · intro most hm
      obtain ⟨n', next', ok', g1', g2', g3', g4'⟩ := readVar_eq (text := ct) (by omega) h7
      refine ⟨⟨ct, b, true⟩, ?_, fun _ => ⟨rfl, rfl, rfl, a, b, rfl, rfl, h6, h7, fun h => by cases h⟩, fun h => by omega⟩
      unfold spec_l08Var
      simp only [g2', Option.bind_some, if_true]
      simp
  | false =>
    have hab := h8 rfl
    subst hab
    cases ok with
    | false =>
      refine ⟨0, ⟨ct, a, true⟩, 0, ?_, by omega, fun _ => rfl, ?_, ⟨a, rfl, h6⟩, rfl, fun h => by cases h⟩
      · unfold impl_scanner_number
        simp only [g1, Option.bind_some, Bool.false_eq_true, if_false, Bool.not_false, if_true]
        rfl
      · intro most hm
        refine ⟨⟨ct, a, true⟩, ?_, fun _ => ⟨rfl, rfl, rfl, a, a, rfl, rfl, h6, h6, fun h => by cases h⟩, fun h => by omega⟩
        unfold spec_l08Var
        simp only [g2, Option.bind_some, Bool.false_eq_true, if_false, Bool.not_false, if_true]
        simp
    | true =>
      obtain ⟨g5, g6, g7⟩ := g4 rfl
      refine ⟨n, ⟨ct, next, false⟩, 0, ?_, g3, (fun h => by cases h), ?_, ⟨next, rfl, g6⟩, rfl, fun _ => ⟨rfl, a, next, rfl, rfl, by omega, g6, g7⟩⟩
      · unfold impl_scanner_number
        simp only [g1, Option.bind_some, Bool.false_eq_true, if_false, Bool.not_true]
      · intro most hm
        unfold spec_l08Var
        simp only [g2, Option.bind_some, Bool.false_eq_true, if_false, Bool.not_true]
        by_cases q : n ≤ most
        · have d : decide ((n : Int) > (most : Int)) = false := decide_eq_false (by omega)
          simp only [d, Bool.false_eq_true, if_false, if_pos q]
          exact ⟨_, rfl, fun _ => ⟨rfl, rfl, rfl, next, next, rfl, rfl, g6, g6, fun _ => rfl⟩, fun h => absurd q h⟩
        · have d : decide ((n : Int) > (most : Int)) = true := decide_eq_true (by omega)
          simp only [d, if_true, if_neg q]
          exact ⟨_, rfl, fun h => absurd h q, fun _ => ⟨rfl, rfl, a, rfl, h6⟩⟩
/-- How many there are. -/
theorem count_sim (ht : text.size ≤ 60000) {s : T_impl_scanner} {c : T_spec_l08Cur} (h : Sim text s c) {most : Nat} (hm : most ≤ 1000000000) : ∃ (n : Nat) (s' : T_impl_scanner) (c' : T_spec_l08Cur), impl_scanner_count s (most : Int) = some ((n : Int), s') ∧ spec_l08Var c (most : Int) = some ((n : Int), c') ∧ Sim text s' c' ∧ n ≤ most ∧
    (s'.bad = false → s.bad = false ∧ Rd text s s' (encL n)) := by
  obtain ⟨n, s', _, h1, h2, h3, h4, ⟨a, h5, h5'⟩, h6, h7⟩ := num_sim ht h
  obtain ⟨c', g1, g2, g3⟩ := h4 most hm
  unfold impl_scanner_count
  rw [show T_impl_scanner.mk s.text s.at_ s.bad = s from rfl, h1]
  simp only [Option.bind_some]
  by_cases q : n ≤ most
  · have d : decide ((n : Int) > (most : Int)) = false := decide_eq_false (by omega)
    rw [if_pos q] at g1
    simp only [d, Bool.false_eq_true, if_false]
    exact ⟨n, s', c', rfl, g1, g2 q, q, h7⟩
  · have d : decide ((n : Int) > (most : Int)) = true := decide_eq_true (by omega)
    rw [if_neg q] at g1
    obtain ⟨k1, k2, b, k3, k4⟩ := g3 q
    simp only [d, if_true]
    exact ⟨0, _, c', rfl, g1, ⟨h6, k2, k1.symm, a, b, h5, k3, h5', k4, fun h => by cases h⟩, by omega, fun h => by cases h⟩
/-- Some bytes. -/
theorem take_sim (ht : text.size ≤ 60000) {s : T_impl_scanner} {c : T_spec_l08Cur} (h : Sim text s c) {n : Nat} (hn : n ≤ 1000000000) : ∃ (t : ByteArray) (s' : T_impl_scanner) (c' : T_spec_l08Cur), impl_scanner_take s (n : Int) = some (t, s') ∧ spec_l08Take c (n : Int) = some (t, c') ∧ Sim text s' c' ∧
    (s'.bad = false → s.bad = false ∧ t.size = n ∧ Rd text s s' (nb t)) ∧ (s.bad = true → t = ByteArray.mk #[]) ∧ (∀ a : Nat, s.at_ = a → n + a ≤ text.size → s.bad = false → s'.bad = false ∧ s'.at_ = ((a + n : Nat) : Int) ∧ t = text.extract a (a + n)) ∧ (∀ a : Nat, s.at_ = a → ¬ n + a ≤ text.size → t = ByteArray.mk #[] ∧ s'.bad = true) := by
  obtain ⟨st, sa, sb⟩ := s
  obtain ⟨ct, ca, cb⟩ := c
  obtain ⟨h1, h2, h3, a, b, h4, h5, h6, h7, h8⟩ := h
  simp only at h1 h2 h3 h4 h5 h8
  subst h3 h4 h5
  obtain rfl : ct = st := h2.trans h1.symm
  subst h1
  have bi : impl_scanner_take ⟨ct, (a : Int), true⟩ (n : Int) = some (ByteArray.mk #[], ⟨ct, (a : Int), true⟩) := by
    unfold impl_scanner_take
    simp only [if_true, Option.bind_some]
  have bs : spec_l08Take ⟨ct, (b : Int), true⟩ (n : Int) = some (ByteArray.mk #[], ⟨ct, (b : Int), true⟩) := by
    unfold spec_l08Take
    simp only [if_true, Option.bind_some]
  cases sb with
  | true =>
    rw [bi, bs]
    exact ⟨_, _, _, rfl, rfl, ⟨rfl, rfl, rfl, a, b, rfl, rfl, h6, h7, fun h => by cases h⟩, (fun h => by cases h), (fun _ => rfl), (fun _ _ _ h => by cases h), fun _ _ _ => ⟨rfl, rfl⟩⟩
  | false =>
    have hab := h8 rfl
    subst hab
    have e1 : wk .i64 ((ct.size : Int) - (a : Int)) = ((ct.size - a : Nat) : Int) := by rw [wk64 (by omega) (by omega)]; omega
    by_cases q : n + a ≤ ct.size
    · have d : decide ((n : Int) > ((ct.size - a : Nat) : Int)) = false := decide_eq_false (by omega)
      have e2 : wk .i64 ((a : Int) + (n : Int)) = ((a + n : Nat) : Int) := by rw [wk64 (by omega) (by omega)]; omega
      have e3 : wk .i64 (((a + n : Nat) : Int) - (n : Int)) = (a : Int) := by rw [wk64 (by omega) (by omega)]; omega
      have hi : impl_scanner_take ⟨ct, (a : Int), false⟩ (n : Int) = some (ct.extract a (a + n), ⟨ct, ((a + n : Nat) : Int), false⟩) := by
        unfold impl_scanner_take
        simp only [e1, d, e2, e3, Bool.false_eq_true, if_false, Option.bind_some]
        rw [sub2_in (by omega) (by omega) (by omega)]
        rfl
      have hs : spec_l08Take ⟨ct, (a : Int), false⟩ (n : Int) = some (ct.extract a (a + n), ⟨ct, ((a + n : Nat) : Int), false⟩) := by
        unfold spec_l08Take
        simp only [e1, d, e2, e3, Bool.false_eq_true, if_false, Option.bind_some]
        rw [sub2_in (by omega) (by omega) (by omega)]
        rfl
      rw [hi, hs]
      refine ⟨_, _, _, rfl, rfl, ⟨rfl, rfl, rfl, a + n, a + n, rfl, rfl, by omega, by omega, fun _ => rfl⟩, fun _ => ⟨rfl, ?_, a, a + n, rfl, rfl, by omega, by omega, (seg_extract ct a (a + n)).symm⟩, (fun h => by cases h), ?_, ?_⟩
      · rw [ByteArray.size_extract]
        omega
      · intro a' ha' _ _
        have : a = a' := by simp only at ha'; omega
        subst this
        exact ⟨rfl, rfl, rfl⟩
      · intro a' ha' hq
        have : a = a' := by simp only at ha'; omega
        subst this
        exact absurd q hq
    · have d : decide ((n : Int) > ((ct.size - a : Nat) : Int)) = true := decide_eq_true (by omega)
      have hi : impl_scanner_take ⟨ct, (a : Int), false⟩ (n : Int) = some (ByteArray.mk #[], ⟨ct, (a : Int), true⟩) := by
        unfold impl_scanner_take
        simp only [e1, d, Bool.false_eq_true, if_false, if_true, Option.bind_some]
      have hs : spec_l08Take ⟨ct, (a : Int), false⟩ (n : Int) = some (ByteArray.mk #[], ⟨ct, (a : Int), true⟩) := by
        unfold spec_l08Take
        simp only [e1, d, Bool.false_eq_true, if_false, if_true, Option.bind_some]
      rw [hi, hs]
      refine ⟨_, _, _, rfl, rfl, ⟨rfl, rfl, rfl, a, a, rfl, rfl, h6, h6, fun h => by cases h⟩, (fun h => by cases h), (fun h => by cases h), ?_, fun _ _ _ => ⟨rfl, rfl⟩⟩
      intro a' ha' hq _
      have : a = a' := by simp only at ha'; omega
      subst this
      exact absurd hq q
/-- A text that its length stands ahead of. -/
theorem short_sim (ht : text.size ≤ 60000) {s : T_impl_scanner} {c : T_spec_l08Cur} (h : Sim text s c) : ∃ (t : ByteArray) (s' : T_impl_scanner) (c' : T_spec_l08Cur), impl_scanner_short s = some (t, s') ∧ spec_l08Short c = some (t, c') ∧ Sim text s' c' ∧ t.size ≤ 60000 ∧
    (s'.bad = false → s.bad = false ∧ Rd text s s' (encL t.size ++ nb t)) := by
  obtain ⟨st, sa, sb⟩ := s
  obtain ⟨ct, ca, cb⟩ := c
  obtain ⟨h1, h2, h3, a, b, h4, h5, h6, h7, h8⟩ := h
  simp only at h1 h2 h3 h4 h5 h8
  subst h3 h4 h5
  obtain rfl : ct = st := h2.trans h1.symm
  subst h1
  obtain ⟨n, next, ok, g1, g2, g3, g4⟩ := readVar_eq (text := ct) (by omega) h6
  have es : (ByteArray.mk #[]).size ≤ 60000 := by decide
  cases sb with
  | true =>
    obtain ⟨n', next', ok', g1', g2', g3', g4'⟩ := readVar_eq (text := ct) (by omega) h7
    refine ⟨ByteArray.mk #[], ⟨ct, a, true⟩, ⟨ct, b, true⟩, ?_, ?_, ⟨rfl, rfl, rfl, a, b, rfl, rfl, h6, h7, fun h => by cases h⟩, es, fun h => by cases h⟩
    · unfold impl_scanner_short impl_scanner_number
      simp only [g1, Option.bind_some, if_true]
      rw [ifF (by simp)]
      unfold impl_scanner_short_j1 impl_scanner_take
      simp only [if_true, Option.bind_some]
    · unfold spec_l08Short spec_ReadShort
      simp only [g2', Option.bind_some, if_true]
      cases ok' with
      | false => simp only [Bool.not_false, if_true, Option.bind_some]
      | true =>
        obtain ⟨g5, g6, g7⟩ := g4' rfl
        simp only [Bool.not_true, Bool.false_eq_true, if_false, Option.bind_some]
        have e1 : wk .i64 ((ct.size : Int) - (next' : Int)) = ((ct.size - next' : Nat) : Int) := by rw [wk64 (by omega) (by omega)]; omega
        have e2 : wk .i64 ((next' : Int) + (n' : Int)) = ((next' + n' : Nat) : Int) := by rw [wk64 (by omega) (by omega)]; omega
        rw [e1, e2]
        by_cases q : n' > 60000 ∨ n' + next' > ct.size
        · have d : (if decide ((n' : Int) > 60000) = true then some true else some (decide ((n' : Int) > ((ct.size - next' : Nat) : Int)))) = some true := by
            by_cases q1 : n' > 60000
            · rw [ifT (by simp; omega)]
            · rw [ifF (by simp; omega), decide_eq_true (by omega)]
          rw [d]
          simp only [Option.bind_some, if_true]
        · have d : (if decide ((n' : Int) > 60000) = true then some true else some (decide ((n' : Int) > ((ct.size - next' : Nat) : Int)))) = some false := by
            rw [ifF (by simp; omega), decide_eq_false (by omega)]
          rw [d]
          simp only [Option.bind_some, Bool.false_eq_true, if_false]
          rw [sub2_in (by omega) (by omega) (by omega)]
          simp only [Option.bind_some, if_true]
  | false =>
    have hab := h8 rfl
    subst hab
    cases ok with
    | false =>
      refine ⟨ByteArray.mk #[], ⟨ct, a, true⟩, ⟨ct, a, true⟩, ?_, ?_, ⟨rfl, rfl, rfl, a, a, rfl, rfl, h6, h7, fun h => by cases h⟩, es, fun h => by cases h⟩
      · unfold impl_scanner_short impl_scanner_number
        simp only [g1, Option.bind_some, Bool.false_eq_true, if_false, Bool.not_false, if_true]
        rw [ifF (by simp)]
        unfold impl_scanner_short_j1 impl_scanner_take
        simp only [if_true, Option.bind_some]
      · unfold spec_l08Short spec_ReadShort
        simp only [g2, Option.bind_some, if_true, Bool.not_false, Bool.false_eq_true, if_false]
    | true =>
      obtain ⟨g5, g6, g7⟩ := g4 rfl
      have e1 : wk .i64 ((ct.size : Int) - (next : Int)) = ((ct.size - next : Nat) : Int) := by rw [wk64 (by omega) (by omega)]; omega
      have e2 : wk .i64 ((next : Int) + (n : Int)) = ((next + n : Nat) : Int) := by rw [wk64 (by omega) (by omega)]; omega
      have e3 : wk .i64 (((next + n : Nat) : Int) - (n : Int)) = (next : Int) := by rw [wk64 (by omega) (by omega)]; omega
      have hi : impl_scanner_short ⟨ct, (a : Int), false⟩ = if n > 60000 ∨ n + next > ct.size then some (ByteArray.mk #[], ⟨ct, (next : Int), true⟩) else some (ct.extract next (next + n), ⟨ct, ((next + n : Nat) : Int), false⟩) := by
        unfold impl_scanner_short impl_scanner_number
        simp only [g1, Option.bind_some, Bool.false_eq_true, if_false, Bool.not_true]
        unfold impl_scanner_short_j1 impl_scanner_take
        by_cases q1 : n > 60000
        · rw [ifT (by simp; omega), if_pos (c := n > 60000 ∨ n + next > ct.size) (.inl q1)]
          simp only [if_true, Option.bind_some]
        · rw [ifF (by simp; omega)]
          simp only [Bool.false_eq_true, if_false, Option.bind_some, e1, e2, e3]
          by_cases q2 : n + next > ct.size
          · rw [decide_eq_true (by omega), if_pos (c := n > 60000 ∨ n + next > ct.size) (.inr q2)]
            simp only [if_true, Option.bind_some]
          · rw [decide_eq_false (by omega), if_neg (c := n > 60000 ∨ n + next > ct.size) (by omega)]
            simp only [Bool.false_eq_true, if_false]
            rw [sub2_in (by omega) (by omega) (by omega)]
            rfl
      have hs : spec_l08Short ⟨ct, (a : Int), false⟩ = if n > 60000 ∨ n + next > ct.size then some (ByteArray.mk #[], ⟨ct, (a : Int), true⟩) else some (ct.extract next (next + n), ⟨ct, ((next + n : Nat) : Int), false⟩) := by
        unfold spec_l08Short spec_ReadShort
        simp only [g2, Option.bind_some, Bool.false_eq_true, if_false, Bool.not_true, e1, e2]
        by_cases q1 : n > 60000 ∨ n + next > ct.size
        · have d : (if decide ((n : Int) > 60000) = true then some true else some (decide ((n : Int) > ((ct.size - next : Nat) : Int)))) = some true := by
            by_cases q1 : n > 60000
            · rw [ifT (by simp; omega)]
            · rw [ifF (by simp; omega), decide_eq_true (by omega)]
          rw [d, if_pos (c := n > 60000 ∨ n + next > ct.size) q1]
          simp only [Option.bind_some, if_true, Bool.not_false]
        · have d : (if decide ((n : Int) > 60000) = true then some true else some (decide ((n : Int) > ((ct.size - next : Nat) : Int)))) = some false := by
            rw [ifF (by simp; omega), decide_eq_false (by omega)]
          rw [d, if_neg (c := n > 60000 ∨ n + next > ct.size) q1]
          simp only [Option.bind_some, Bool.false_eq_true, if_false]
          rw [sub2_in (by omega) (by omega) (by omega)]
          simp only [Option.bind_some, Bool.not_true, Bool.false_eq_true, if_false]
          rfl
      rw [hi, hs]
      by_cases q : n > 60000 ∨ n + next > ct.size
      · rw [if_pos q, if_pos q]
        exact ⟨_, _, _, rfl, rfl, ⟨rfl, rfl, rfl, next, a, rfl, rfl, g6, h6, fun h => by cases h⟩, es, fun h => by cases h⟩
      · rw [if_neg q, if_neg q]
        have hsz : (ct.extract next (next + n)).size = n := by rw [ByteArray.size_extract]; omega
        refine ⟨_, _, _, rfl, rfl, ⟨rfl, rfl, rfl, next + n, next + n, rfl, rfl, by omega, by omega, fun _ => rfl⟩, by omega, fun _ => ⟨rfl, ?_⟩⟩
        rw [hsz, seg_extract]
        refine Rd.trans (s2 := ⟨ct, next, false⟩) ⟨a, next, rfl, rfl, by omega, g6, g7⟩ ⟨next, next + n, rfl, rfl, by omega, by omega, rfl⟩
end
end Go.TV.F
/- Plain Lean: lists of items read, side by side. -/
namespace Go.TV.F
open Go.TV
theorem items_sim {text : ByteArray} {α : Type} {I : T_impl_scanner → Option (α × T_impl_scanner)} {G : T_spec_l08Cur → Option (α × T_spec_l08Cur)} (enc : α → List Nat) (P P2 : α → Prop)
    (hit : ∀ s c, Sim text s c → ∃ x s' y c', I s = some (x, s') ∧ G c = some (y, c') ∧ Sim text s' c' ∧ P2 y ∧ (s'.bad = false → x = y ∧ P x ∧ s.bad = false ∧ Rd text s s' (enc x)))
    {n : Nat} {f : Int × ByteArray × Int × Bool × List α → Option ((Int × ByteArray × Int × Bool × List α) ⊕ (ByteArray × Int × Bool × List α))} {g : Int × ByteArray × Int × Bool × List α → Option ((Int × ByteArray × Int × Bool × List α) ⊕ (ByteArray × Int × Bool × List α))}
    (hf : ∀ (k : Nat) (t : ByteArray) (a : Int) (b : Bool) (out : List α), k < n → out.length = k → f ((k : Int), t, a, b, out) = (I ⟨t, a, b⟩).bind fun r => some (.inl (((k + 1 : Nat) : Int), r.2.text, r.2.at_, r.2.bad, out ++ [r.1])))
    (hf0 : ∀ (t : ByteArray) (a : Int) (b : Bool) (out : List α), f ((n : Int), t, a, b, out) = some (.inr (t, a, b, out)))
    (hg : ∀ (k : Nat) (t : ByteArray) (a : Int) (out : List α), k < n → out.length = k → g ((k : Int), t, a, false, out) = (G ⟨t, a, false⟩).bind fun r => some (.inl (((k + 1 : Nat) : Int), r.2.text, r.2.at_, r.2.bad, out ++ [r.1])))
    (hg0 : ∀ (k : Nat) (t : ByteArray) (a : Int) (out : List α), k ≤ n → g ((k : Int), t, a, true, out) = some (.inr (t, a, true, out)))
    (hg1 : ∀ (t : ByteArray) (a : Int) (b : Bool) (out : List α), g ((n : Int), t, a, b, out) = some (.inr (t, a, b, out)))
    {s : T_impl_scanner} {c : T_spec_l08Cur} (h : Sim text s c) :
    ∃ s' l c' l', loopM f (0, s.text, s.at_, s.bad, []) = some (s'.text, s'.at_, s'.bad, l) ∧ loopM g (0, c.text, c.at_, c.bad, []) = some (c'.text, c'.at_, c'.bad, l') ∧ Sim text s' c' ∧ l'.length ≤ n ∧ (∀ y ∈ l', P2 y) ∧
      (s'.bad = false → l = l' ∧ s.bad = false ∧ l.length = n ∧ (∀ x ∈ l, P x) ∧ Rd text s s' (l.map enc).flatten) := by
  have badrun : ∀ (m k : Nat) (s : T_impl_scanner) (out : List α), k + m = n → out.length = k → s.bad = true → (∃ c, Sim text s c) → ∃ s' l, loopM f ((k : Int), s.text, s.at_, s.bad, out) = some (s'.text, s'.at_, s'.bad, l) ∧ s'.bad = true ∧ ∃ c', Sim text s' c' := by
    intro m
    induction m with
    | zero =>
      intro k s out hk ho hb hc
      have : k = n := by omega
      subst this
      rw [loopM_eq, hf0]
      exact ⟨s, out, rfl, hb, hc⟩
    | succ m ih =>
      intro k s out hk ho hb ⟨c, hc⟩
      obtain ⟨x, s', y, c', h1, h2, h3, _, h4⟩ := hit s c hc
      have hb' : s'.bad = true := by
        cases q : s'.bad with
        | true => rfl
        | false =>
          have := (h4 q).2.2.1
          rw [hb] at this
          cases this
      rw [loopM_eq, hf k _ _ _ _ (by omega) ho, show T_impl_scanner.mk s.text s.at_ s.bad = s from rfl, h1]
      simp only [Option.bind_some]
      exact ih (k + 1) s' (out ++ [x]) (by omega) (by simp [ho]) hb' ⟨c', h3⟩
  have simBad : ∀ {s1 : T_impl_scanner} {c1 c2 : T_spec_l08Cur} {s2 : T_impl_scanner}, Sim text s1 c1 → Sim text s2 c2 → s1.bad = true → s2.bad = true → Sim text s1 c2 := by
    intro s1 c1 c2 s2 h1 h2 b1 b2
    obtain ⟨a1, b1', q1, q2, q3, q4, q5⟩ := h1.at_
    obtain ⟨a2, b2', r1, r2, r3, r4, r5⟩ := h2.at_
    exact ⟨h1.st, h2.ct, by rw [b1, ← h2.bad, b2], a1, b2', q1, r2, q3, r4, fun h => by rw [b1] at h; cases h⟩
  have main : ∀ (m k : Nat) (s : T_impl_scanner) (c : T_spec_l08Cur) (out : List α), k + m = n → out.length = k → Sim text s c → s.bad = false → (∀ x ∈ out, P x) → (∀ x ∈ out, P2 x) → ∃ s' l c' l', loopM f ((k : Int), s.text, s.at_, s.bad, out) = some (s'.text, s'.at_, s'.bad, l) ∧ loopM g ((k : Int), c.text, c.at_, c.bad, out) = some (c'.text, c'.at_, c'.bad, l') ∧ Sim text s' c' ∧ l'.length ≤ n ∧ (∀ y ∈ l', P2 y) ∧
      (s'.bad = false → l = l' ∧ l.length = n ∧ (∀ x ∈ l, P x) ∧ ∃ l2, l = out ++ l2 ∧ Rd text s s' (l2.map enc).flatten) := by
    intro m
    induction m with
    | zero =>
      intro k s c out hk ho hs hb hP hP2
      have : k = n := by omega
      subst this
      rw [loopM_eq, hf0, loopM_eq, hg1]
      obtain ⟨a1, b1', q1, q2, q3, q4, q5⟩ := hs.at_
      exact ⟨s, out, c, out, rfl, rfl, hs, by omega, hP2, fun _ => ⟨rfl, ho, hP, [], by simp, Rd.refl q1 q3⟩⟩
    | succ m ih =>
      intro k s c out hk ho hs hb hP hP2
      have hcb : c.bad = false := by rw [← hs.bad, hb]
      obtain ⟨x, s', y, c', h1, h2, h3, hy2, h4⟩ := hit s c hs
      have hP2' : ∀ z ∈ out ++ [y], P2 z := fun z hz => by
        rcases List.mem_append.1 hz with hz | hz
        · exact hP2 z hz
        · simp at hz
          subst hz
          exact hy2
      rw [loopM_eq, hf k _ _ _ _ (by omega) ho, show T_impl_scanner.mk s.text s.at_ s.bad = s from rfl, h1]
      rw [loopM_eq, hcb, hg k _ _ _ (by omega) ho, show T_spec_l08Cur.mk c.text c.at_ false = c from by cases c with | mk t a b => simp only at hcb; rw [hcb], h2]
      simp only [Option.bind_some]
      cases q : s'.bad with
      | true =>
        have hcb' : c'.bad = true := by rw [← h3.bad, q]
        obtain ⟨s2, l, g1, g2, c2, g3⟩ := badrun m (k + 1) s' (out ++ [x]) (by omega) (by simp [ho]) q ⟨c', h3⟩
        rw [q] at g1
        rw [g1, hcb', loopM_eq, hg0 (k + 1) _ _ _ (by omega)]
        refine ⟨s2, l, c', out ++ [y], rfl, by rw [hcb']; rfl, simBad g3 h3 g2 q, by simp; omega, hP2', fun h => ?_⟩
        rw [g2] at h
        cases h
      | false =>
        obtain ⟨rfl, hPx, _, hr⟩ := h4 q
        obtain ⟨s2, l, c2, l2, g1, g2, g3, g5, g6, g4⟩ := ih (k + 1) s' c' (out ++ [x]) (by omega) (by simp [ho]) h3 q (fun z hz => by
          rcases List.mem_append.1 hz with hz | hz
          · exact hP z hz
          · simp at hz
            subst hz
            exact hPx) hP2'
        rw [q] at g1
        rw [g1, g2]
        refine ⟨s2, l, c2, l2, rfl, rfl, g3, g5, g6, fun h => ?_⟩
        obtain ⟨k1, k2, k3, l3, k4, k5⟩ := g4 h
        refine ⟨k1, k2, k3, x :: l3, by rw [k4]; simp, ?_⟩
        rw [List.map_cons, List.flatten_cons]
        exact hr.trans k5
  cases hb : s.bad with
  | true =>
    have hcb : c.bad = true := by rw [← h.bad, hb]
    obtain ⟨s', l, h1, h2, c', h3⟩ := badrun n 0 s [] (by omega) rfl hb ⟨c, h⟩
    rw [hb] at h1
    have := hg0 0 c.text c.at_ [] (by omega)
    refine ⟨s', l, c, [], h1, ?_, simBad h3 h h2 hb, by simp, (fun _ h => by cases h), fun q => ?_⟩
    · rw [hcb, loopM_eq]
      have e : ((0 : Nat) : Int) = 0 := rfl
      rw [e] at this
      rw [this]
      rfl
    · rw [h2] at q
      cases q
  | false =>
    obtain ⟨s', l, c', l', h1, h2, h3, h5, h6, h4⟩ := main n 0 s c [] (by omega) rfl h hb (fun _ h => by cases h) (fun _ h => by cases h)
    rw [hb] at h1
    refine ⟨s', l, c', l', h1, h2, h3, h5, h6, fun q => ?_⟩
    obtain ⟨k1, k2, k3, l3, k4, k5⟩ := h4 q
    rw [List.nil_append] at k4
    subst k4
    exact ⟨k1, rfl, k2, k3, k5⟩
end Go.TV.F
/- Plain Lean: steps: how large they are, copies, compares. -/
namespace Go.TV.F
open Go.TV
/-- A loop, by what stays true. -/
theorem loopM_inv {σ ρ : Type} {f : σ → Option (σ ⊕ ρ)} (I : σ → Prop) (m : σ → Nat) (Q : ρ → Prop) {s : σ} (h0 : I s)
    (h : ∀ s, I s → (∃ s', f s = some (.inl s') ∧ I s' ∧ m s' < m s) ∨ ∃ r, f s = some (.inr r) ∧ Q r) : ∃ r, loopM f s = some r ∧ Q r := by
  have key : ∀ n s, I s → m s = n → ∃ r, loopM f s = some r ∧ Q r := by
    intro n
    induction n using Nat.strongRecOn with
    | _ n ih =>
      intro s hs hm
      rw [loopM_eq f]
      rcases h s hs with ⟨s', h1, h2, h3⟩ | ⟨r, h1, h2⟩
      · rw [h1]
        exact ih (m s') (by omega) s' h2 rfl
      · rw [h1]
        exact ⟨r, rfl, h2⟩
  exact key _ s h0 rfl
def BB : Nat := 1000000000000000
/-! ### Copies -/
/-! ### Compares -/
end Go.TV.F
/- Plain Lean: BundleText is the reference's. -/
namespace Go.TV.F
open Go.TV
theorem empty_app (s : ByteArray) : ByteArray.mk #[] ++ s = s := by
  apply ByteArray.ext
  rw [ByteArray.data_append]
  simp
/-! ### Numbers and texts in bytes -/
theorem encL_len5 : ∀ (k n : Nat), n < 128 ^ (k + 1) → (encL n).length ≤ k + 1
  | 0, n, h => by rw [encL_lo (by simpa using Nat.le_of_lt_succ h)]; simp
  | k + 1, n, h => by
    by_cases q : n ≤ 127
    · rw [encL_lo q]
      simp
    · rw [encL_hi q]
      have := encL_len5 k (n / 128) (by rw [Nat.pow_succ] at h; exact Nat.div_lt_of_lt_mul (by rw [Nat.mul_comm]; exact h))
      simp
      exact this
theorem encS_size {n : Nat} (h : n ≤ 1000000000) : (encS n).size ≤ 5 := by
  rw [← nb_len, nb_encS]
  exact encL_len5 4 n (by omega)
theorem var_loopI : ∀ (n : Nat) (out : List Int), out.length + n ≤ 68719476736 → ∃ (c : Int) (o : List Int), loopM (fun (s' : Int × (List Int)) => impl_varText_l1 s'.1 s'.2) ((n : Int), out) = some (c, o) ∧ 0 ≤ c ∧ c ≤ 127 ∧ o ++ [c] = out ++ (encL n).map (fun x : Nat => (x : Int)) ∧ o.length ≤ 68719476736 := by
  intro n
  induction n using Nat.strongRecOn with
  | _ n ih =>
    intro out h
    rw [loopM_eq]
    simp only [impl_varText_l1]
    by_cases q : n ≤ 127
    · rw [ifF (by simp; omega)]
      refine ⟨_, _, rfl, by omega, by omega, ?_, by omega⟩
      rw [encL_lo q]
      rfl
    · rw [ifT (by simp; omega), show (128 : Int) = ((128 : Nat) : Int) from rfl, tmod_nat, tdiv_nat, wk64 (x := ((128 : Nat) : Int) + ((n % 128 : Nat) : Int)) (by omega) (by omega), wku8 (by omega) (by omega), appn_in (by simp; omega)]
      simp only [Option.bind_some, List.append_eq]
      rw [wk64 (x := ((n / 128 : Nat) : Int)) (by omega) (by omega)]
      obtain ⟨c, o, h1, h2, h3, h4, h5⟩ := ih (n / 128) (by omega) (out ++ [((128 : Nat) : Int) + ((n % 128 : Nat) : Int)]) (by simp; omega)
      refine ⟨c, o, h1, h2, h3, ?_, h5⟩
      rw [h4, encL_hi q]
      simp
      omega
theorem varText_eq {n : Nat} (h : n ≤ 34359738368) : impl_varText (n : Int) = some (encS n) := by
  unfold impl_varText
  obtain ⟨c, o, h1, h2, h3, h4, h5⟩ := var_loopI n [] (by simp; omega)
  rw [h1]
  simp only [Option.bind_some]
  unfold impl_varText_j1
  rw [wku8 h2 (by omega), appn_in (by simp; omega), Option.bind_some, h4]
  rfl
def shS (s : ByteArray) : ByteArray := encS s.size ++ s
theorem shortI_eq {s : ByteArray} (h : s.size ≤ 1000000000) : impl_shortText s = some (shS s) := by
  have := encS_size h
  unfold impl_shortText
  rw [varText_eq (by omega), Option.bind_some, sapp_in (by omega)]
  rfl
theorem wstr_in {b x : ByteArray} (h : b.size + x.size ≤ 549755813888) : strings_Builder_WriteString b x = some (b ++ x) := by
  unfold strings_Builder_WriteString
  rw [if_pos h]
/-! ### What can be told -/
end Go.TV.F
/- Plain Lean: loops by what stays true, and small lemmas. -/
namespace Go.TV.F
open Go.TV
end Go.TV.F
/- Plain Lean: the functions over graphs, and what they come to. -/
namespace Go.TV.F
open Go.TV

/-- Sets, as the program holds them. -/
abbrev us (c : List Nat) : List Int := c.map fun (s : Nat) => (s : Int)
/-! ### The reference -/
end Go.TV.F
/- Plain Lean: loops that look at all of a list; small steps. -/
namespace Go.TV.F
open Go.TV
theorem orO (a b : Bool) : (if a = true then some true else some b) = some (a || b) := by cases a <;> rfl
/-- A loop that looks at all, and leaves at the first bad one. -/
theorem all_loopN {β : Type} {body : Int → Option (Int ⊕ (β ⊕ Unit))} {bad : β} (n : Nat) (p : Nat → Bool)
    (hs : ∀ k, k < n → (∀ j, j < k → p j = true) → body (k : Int) = some (if p k = true then .inl ((k + 1 : Nat) : Int) else .inr (.inl bad)))
    (he : body (n : Int) = some (.inr (.inr ()))) : loopM body 0 = some (if (List.range n).all p = true then .inr () else .inl bad) :=
  loopM_all (ρ := β ⊕ Unit) (good := Sum.inr ()) (bad := Sum.inl bad) (fun k => (k : Int)) n p (fun k hk hj hp => by rw [hs k hk hj, if_pos hp]) (fun k hk hj hp => by rw [hs k hk hj, hp]; rfl) (fun _ => he)
theorem all_loopL {α β : Type} {body : Int → Option (Int ⊕ (β ⊕ Unit))} {bad : β} (l : List α) (q : α → Bool)
    (hs : ∀ (k : Nat) (x : α), l[k]? = some x → k < l.length → body (k : Int) = some (if q x = true then .inl ((k + 1 : Nat) : Int) else .inr (.inl bad)))
    (he : body (l.length : Int) = some (.inr (.inr ()))) : loopM body 0 = some (if l.all q = true then .inr () else .inl bad) := by
  rw [← all_range l q]
  exact all_loopN l.length _ (fun k hk _ => by rw [hs k l[k] (List.getElem?_eq_getElem hk) hk, List.getElem?_eq_getElem hk]; rfl) he
theorem bl_tri : ∀ a b : List UInt8, (Op.bytesLess a b || a == b) = !Op.bytesLess b a
  | [], [] => rfl
  | [], b :: y => rfl
  | a :: x, [] => rfl
  | a :: x, b :: y => by
    have ih := bl_tri x y
    simp only [Op.bytesLess]
    rcases Nat.lt_trichotomy a.toNat b.toNat with h | h | h
    · have h1 : a < b := h
      have h2 : ¬ b < a := fun q => by have q' : b.toNat < a.toNat := q; omega
      have h3 : ¬ b = a := fun q => by subst q; omega
      simp [h1, h2, h3]
    · have h3 : a = b := UInt8.toNat_inj.1 h
      subst h3
      have h1 : ¬ a < a := fun q => by have q' : a.toNat < a.toNat := q; omega
      simp [h1]
      rw [← ih]
      try (cases Op.bytesLess x y <;> simp)
    · have h1 : b < a := h
      have h2 : ¬ a < b := fun q => by have q' : a.toNat < b.toNat := q; omega
      have h3 : ¬ a = b := fun q => by subst q; omega
      simp [h1, h2, h3]
theorem getD_in {α : Type} {l : List α} {i : Nat} {d : α} (h : i < l.length) : l.getD i d = l[i] := by
  rw [List.getD_eq_getElem?_getD, List.getElem?_eq_getElem h]
  rfl
theorem getD_some {α : Type} {l : List α} {i : Nat} {d x : α} (h : l[i]? = some x) : l.getD i d = x := by
  rw [List.getD_eq_getElem?_getD, h]
  rfl
end Go.TV.F
/- Plain Lean: reading what is there. -/
namespace Go.TV.F
open Go.TV
/-- These bytes stand at a place. -/
def At (text : ByteArray) (a : Nat) (l : List Nat) : Prop := a ≤ text.size ∧ ∃ r, (nb text).drop a = l ++ r
theorem At.len {text : ByteArray} {a : Nat} {l : List Nat} (h : At text a l) : a + l.length ≤ text.size := by
  obtain ⟨h0, r, h⟩ := h
  have := congrArg List.length h
  rw [List.length_drop, List.length_append, nb_len] at this
  omega
theorem At.app {text : ByteArray} {a : Nat} {l m : List Nat} (h : At text a (l ++ m)) : At text a l ∧ At text (a + l.length) m := by
  have hl := h.len
  rw [List.length_append] at hl
  obtain ⟨h0, r, h⟩ := h
  refine ⟨⟨h0, m ++ r, by rw [h, List.append_assoc]⟩, by omega, r, ?_⟩
  rw [← List.drop_drop, h, List.append_assoc, List.drop_left]
theorem At.get {text : ByteArray} {a : Nat} {l : List Nat} (h : At text a l) {k : Nat} (hk : k < l.length) : (nb text)[a + k]? = some l[k] := by
  obtain ⟨h0, r, h⟩ := h
  rw [← List.getElem?_drop, h, List.getElem?_append_left hk, List.getElem?_eq_getElem hk]
theorem At.take {text : ByteArray} {a : Nat} {l : List Nat} (h : At text a l) : nb (text.extract a (a + l.length)) = l := by
  obtain ⟨h0, r, h⟩ := h
  rw [nb_extract, h, Nat.add_sub_cancel_left, List.take_left]
theorem encL_split : ∀ n : Nat, ∃ l c, encL n = l ++ [c] ∧ c < 128 ∧ (∀ x ∈ l, 128 ≤ x ∧ x < 256) ∧ (c = 0 → l = []) := by
  intro n
  have hx : ∃ l c, encL n = l ++ [c] ∧ c < 128 ∧ (∀ x ∈ l, 128 ≤ x ∧ x < 256) := by
    induction n using Nat.strongRecOn with
    | _ n ih =>
      by_cases q : n ≤ 127
      · exact ⟨[], n, by rw [encL_lo q]; rfl, by omega, fun x hx => by cases hx⟩
      · obtain ⟨l, c, h1, h2, h3⟩ := ih (n / 128) (by omega)
        refine ⟨(n % 128 + 128) :: l, c, by rw [encL_hi q, h1]; rfl, h2, fun x hx => ?_⟩
        rcases List.mem_cons.1 hx with rfl | hx
        · omega
        · exact h3 x hx
  obtain ⟨l, c, h1, h2, h3⟩ := hx
  refine ⟨l, c, h1, h2, h3, fun h0 => ?_⟩
  subst h0
  exact enc_last0 n l h1
theorem readVar_run {text : ByteArray} (ht : text.size ≤ 1000000000) {a n : Nat} (hn : n ≤ 1000000000) (h : At text a (encL n)) : impl_ReadVar text (a : Int) = some ((n : Int), ((a + (encL n).length : Nat) : Int), true) := by
  obtain ⟨l, c, he, hc, hl, h0⟩ := encL_split n
  have h5 : (encL n).length ≤ 5 := encL_len5 4 n (by omega)
  have hv : n = valL (l ++ [c]) := by rw [← he, valL_enc]
  have hlen := h.len
  have hl4 : l.length ≤ 4 := by rw [he] at h5; simp at h5; exact h5
  have hll : (encL n).length = l.length + 1 := by rw [he]; simp
  have hgl : ∀ k (hk : k < l.length), (nb text)[a + k]? = some l[k] := fun k hk => by
    rw [h.get (by omega)]
    simp only [he, List.getElem_append_left hk]
  have hgc : (nb text)[a + l.length]? = some c := by
    rw [h.get (by omega)]
    simp only [he, List.getElem_concat_length]
  unfold impl_ReadVar
  rw [ifF (by simp)]
  simp only [Option.bind_some]
  rw [ifF (by simp; omega)]
  have step : ∀ k, k ≤ l.length → ∀ b, (nb text)[a + k]? = some b → ∃ M, M = b % 128 * 128 ^ k ∧ M ≤ 127 * 268435456 ∧ valL (l.take k) + M ≤ 34359738368 ∧ impl_ReadVar_l1 text (a : Int) ((valL (l.take k) : Nat) : Int) ((128 ^ k : Nat) : Int) (k : Int) = (if b ≥ 128 then some (.inl (((valL (l.take k) + M : Nat) : Int), ((128 ^ (k + 1) : Nat) : Int), ((k + 1 : Nat) : Int))) else if (b = 0 ∧ k > 0) ∨ valL (l.take k) + M > 1000000000 then some (.inr (.inl (0, 0, false))) else some (.inr (.inl (((valL (l.take k) + M : Nat) : Int), ((a + (k + 1) : Nat) : Int), true)))) := fun k hk b hb => by
    have hpw : 128 ^ k ≤ 128 ^ 4 := Nat.pow_le_pow_right (by omega) (by omega)
    have hpw' : 128 ^ k ≤ 268435456 := by simpa using hpw
    have hval := valL_lt (l.take k)
    rw [List.length_take, Nat.min_eq_left hk] at hval
    have hmul : b % 128 * 128 ^ k ≤ 127 * 268435456 := Nat.mul_le_mul (by omega) hpw'
    obtain ⟨M, hM⟩ : ∃ M, M = b % 128 * 128 ^ k := ⟨_, rfl⟩
    rw [← hM] at hmul
    refine ⟨M, hM, hmul, by omega, ?_⟩
    have hks : a + k < text.size := by have := (List.getElem?_eq_some_iff.1 hb).1; rw [nb_len] at this; exact this
    obtain ⟨b', g1, g2, g3⟩ := sidx_nb hks
    have : b' = b := by rw [hb] at g2; exact (Option.some.inj g2).symm
    subst this
    unfold impl_ReadVar_l1
    have e1 : wk .i64 ((a : Int) + (k : Int)) = ((a + k : Nat) : Int) := by rw [wk64 (by omega) (by omega)]; omega
    have hbw : wk .i64 (b' : Int) = (b' : Int) := wk64 (by omega) (by omega)
    have e3 : wk .i64 (((b' : Int)).tmod 128 * ((128 ^ k : Nat) : Int)) = (M : Int) := by
      rw [show (128 : Int) = ((128 : Nat) : Int) from rfl, tmod_nat, ← Int.natCast_mul, ← hM, wk64 (by omega) (by omega)]
    have e4 : wk .i64 (((valL (l.take k) : Nat) : Int) + (M : Int)) = ((valL (l.take k) + M : Nat) : Int) := by
      rw [wk64 (by omega) (by omega)]
      omega
    have e5 : wk .i64 (((128 ^ k : Nat) : Int) * 128) = ((128 ^ (k + 1) : Nat) : Int) := by
      rw [wk64 (by omega) (by omega), Nat.pow_succ]
      omega
    have e6 : wk .i64 ((k : Int) + 1) = ((k + 1 : Nat) : Int) := by rw [wk64 (by omega) (by omega)]; omega
    have e7 : wk .i64 (((a + k : Nat) : Int) + 1) = ((a + (k + 1) : Nat) : Int) := by rw [wk64 (by omega) (by omega)]; omega
    rw [e1]
    have c1 : (if decide ((k : Int) < 5) = true then some (decide (((a + k : Nat) : Int) < (text.size : Int))) else some false) = some true := by
      rw [ifT (by simp; omega)]
      congr 1
      simp
      omega
    rw [c1]
    simp only [Option.bind_some, if_true, g1, hbw, e3, e4, e5, e6, e7]
    by_cases qb : b' ≥ 128
    · rw [ifT (decide_eq_true (by omega)), if_pos qb]
    · rw [ifF (decide_eq_false (by omega)), if_neg qb]
      have d2 : (if ((b' : Int) == 0) = true then some (decide ((k : Int) > 0)) else some false) = some (decide (b' = 0 ∧ k > 0)) := by
        by_cases qz : b' = 0
        · rw [ifT (by simp [qz]), show decide (b' = 0 ∧ k > 0) = decide ((k : Int) > 0) from by simp [qz]]
        · rw [ifF (by simpa using qz)]
          simp [qz]
      rw [d2]
      simp only [Option.bind_some, orO]
      by_cases q1 : b' = 0 ∧ k > 0
      · rw [if_pos (c := b' = 0 ∧ k > 0 ∨ valL (l.take k) + M > 1000000000) (.inl q1), decide_eq_true q1]
        rfl
      · rw [decide_eq_false q1, Bool.false_or]
        by_cases q2 : valL (l.take k) + M > 1000000000
        · rw [if_pos (c := b' = 0 ∧ k > 0 ∨ valL (l.take k) + M > 1000000000) (.inr q2), ifT (decide_eq_true (by omega))]
        · rw [if_neg (c := b' = 0 ∧ k > 0 ∨ valL (l.take k) + M > 1000000000) (fun h => h.elim q1 q2), ifF (decide_eq_false (by omega))]
  have run := loopM_at (body := fun (s' : Int × Int × Int) => impl_ReadVar_l1 text (a : Int) s'.1 s'.2.1 s'.2.2) (r := (.inl ((n : Int), ((a + (encL n).length : Nat) : Int), true) : (Int × Int × Bool) ⊕ Unit)) (fun k => (((valL (l.take k) : Nat) : Int), ((128 ^ k : Nat) : Int), (k : Int))) l.length (fun k hk => by
    obtain ⟨M, hM, _, _, hs⟩ := step k (by omega) _ (hgl k hk)
    have h8 := (hl _ (List.getElem_mem hk)).1
    show impl_ReadVar_l1 text a _ _ _ = _
    rw [hs, if_pos h8]
    have : valL (l.take (k + 1)) = valL (l.take k) + M := by
      rw [List.take_add_one, List.getElem?_eq_getElem hk]
      simp only [Option.toList_some]
      rw [valL_snoc, hM, List.length_take, Nat.min_eq_left (by omega)]
    rw [this]) (by
    obtain ⟨M, hM, _, _, hs⟩ := step l.length (by omega) _ hgc
    show impl_ReadVar_l1 text a _ _ _ = _
    have hvn : valL (l.take l.length) + M = n := by
      rw [hv, valL_snoc, hM, List.take_length]
    rw [hs, if_neg (by omega), hvn, if_neg, hll]
    rintro (⟨q1, q2⟩ | q)
    · have := h0 q1
      subst this
      simp at q2
    · omega)
  have e0 : (((valL (l.take 0) : Nat) : Int), ((128 ^ 0 : Nat) : Int), ((0 : Nat) : Int)) = ((0 : Int), (1 : Int), (0 : Int)) := by simp [valL]
  simp only [e0] at run
  rw [run]
  rfl
theorem number_run {t : ByteArray} (ht : t.size ≤ 60000) {a n : Nat} (hn : n ≤ 1000000000) (h : At t a (encL n)) : impl_scanner_number ⟨t, a, false⟩ = some ((n : Int), ⟨t, ((a + (encL n).length : Nat) : Int), false⟩) := by
  unfold impl_scanner_number
  simp only [readVar_run (by omega) hn h, Option.bind_some, Bool.false_eq_true, if_false, Bool.not_true]
theorem count_run {t : ByteArray} (ht : t.size ≤ 60000) {a n most : Nat} (hn : n ≤ most) (hm : most ≤ 1000000000) (h : At t a (encL n)) : impl_scanner_count ⟨t, a, false⟩ (most : Int) = some ((n : Int), ⟨t, ((a + (encL n).length : Nat) : Int), false⟩) := by
  unfold impl_scanner_count
  simp only [number_run ht (by omega) h, Option.bind_some]
  rw [ifF (decide_eq_false (by omega))]
theorem take_run {t : ByteArray} (ht : t.size ≤ 60000) {a n : Nat} (h : a + n ≤ t.size) : impl_scanner_take ⟨t, a, false⟩ (n : Int) = some (t.extract a (a + n), ⟨t, ((a + n : Nat) : Int), false⟩) := by
  unfold impl_scanner_take
  have e1 : wk .i64 ((t.size : Int) - (a : Int)) = ((t.size - a : Nat) : Int) := by rw [wk64 (by omega) (by omega)]; omega
  have d : decide ((n : Int) > ((t.size - a : Nat) : Int)) = false := decide_eq_false (by omega)
  have e2 : wk .i64 ((a : Int) + (n : Int)) = ((a + n : Nat) : Int) := by rw [wk64 (by omega) (by omega)]; omega
  have e3 : wk .i64 (((a + n : Nat) : Int) - (n : Int)) = (a : Int) := by rw [wk64 (by omega) (by omega)]; omega
  simp only [e1, d, e2, e3, Bool.false_eq_true, if_false, Option.bind_some]
  rw [sub2_in (by omega) (by omega) (by omega)]
  rfl
theorem mark_run {t mark : ByteArray} (ht : t.size ≤ 60000) {a : Nat} (h : At t a (nb mark)) : impl_scanner_mark ⟨t, a, false⟩ mark = some ⟨t, ((a + mark.size : Nat) : Int), false⟩ := by
  have hl := h.len
  have hx := h.take
  rw [nb_len] at hl hx
  unfold impl_scanner_mark
  simp only [take_run ht hl, Option.bind_some]
  rw [beq_nb, hx]
  simp
theorem short_run {t s : ByteArray} (ht : t.size ≤ 60000) {a : Nat} (hs : s.size ≤ 60000) (h : At t a (encL s.size ++ nb s)) : impl_scanner_short ⟨t, a, false⟩ = some (s, ⟨t, ((a + (encL s.size ++ nb s).length : Nat) : Int), false⟩) := by
  obtain ⟨h1, h2⟩ := h.app
  have hl := h2.len
  have hx := h2.take
  rw [nb_len] at hl hx
  unfold impl_scanner_short
  simp only [number_run ht (by omega) h1, Option.bind_some]
  rw [ifF (decide_eq_false (by omega))]
  unfold impl_scanner_short_j1
  simp only [take_run ht hl, Option.bind_some]
  rw [nb_inj hx, List.length_append, nb_len, Nat.add_assoc]
/-- Items, one behind the other. -/
theorem items_run {t : ByteArray} {α : Type} {I : T_impl_scanner → Option (α × T_impl_scanner)} (enc : α → List Nat) (l : List α)
    (hit : ∀ (a : Nat) (x : α), x ∈ l → At t a (enc x) → I ⟨t, a, false⟩ = some (x, ⟨t, ((a + (enc x).length : Nat) : Int), false⟩))
    {f : Int × ByteArray × Int × Bool × List α → Option ((Int × ByteArray × Int × Bool × List α) ⊕ (ByteArray × Int × Bool × List α))}
    (hf : ∀ (k : Nat) (x : α) (a a' : Nat) (out : List α), k < l.length → out.length = k → I ⟨t, a, false⟩ = some (x, ⟨t, a', false⟩) → l[k]? = some x → f ((k : Int), t, a, false, out) = some (.inl (((k + 1 : Nat) : Int), t, a', false, out ++ [x])))
    (hf0 : ∀ (a : Nat), f ((l.length : Int), t, a, false, l) = some (.inr (t, a, false, l)))
    {a : Nat} (h : At t a (l.map enc).flatten) : loopM f (0, t, a, false, []) = some (t, ((a + (l.map enc).flatten.length : Nat) : Int), false, l) := by
  have key : ∀ (m pre : List α) (a : Nat), l = pre ++ m → At t a (m.map enc).flatten → loopM f ((pre.length : Int), t, a, false, pre) = some (t, ((a + (m.map enc).flatten.length : Nat) : Int), false, l) := by
    intro m
    induction m with
    | nil =>
      intro pre a hl _
      rw [List.append_nil] at hl
      subst hl
      rw [loopM_eq, hf0]
      simp
    | cons x m ih =>
      intro pre a hl hat
      rw [List.map_cons, List.flatten_cons] at hat
      obtain ⟨h1, h2⟩ := hat.app
      rw [loopM_eq, hf pre.length x a (a + (enc x).length) pre (by rw [hl]; simp) rfl (hit a x (by rw [hl]; simp) h1) (by rw [hl]; simp)]
      simp only [Option.bind_some]
      have := ih (pre ++ [x]) (a + (enc x).length) (by rw [hl]; simp) h2
      rw [List.length_append] at this
      refine this.trans ?_
      rw [List.map_cons, List.flatten_cons, List.length_append, Nat.add_assoc]
  exact key l [] a rfl h
theorem encL_free {n m : Nat} {x y : List Nat} (h : encL n ++ x = encL m ++ y) : n = m ∧ x = y := by
  obtain ⟨l, c, h1, h2, h3, _⟩ := encL_split n
  obtain ⟨l', c', g1, g2, g3, _⟩ := encL_split m
  have key : ∀ (l l' : List Nat), (∀ x ∈ l, 128 ≤ x ∧ x < 256) → (∀ x ∈ l', 128 ≤ x ∧ x < 256) → l ++ [c] ++ x = l' ++ [c'] ++ y → l = l' ∧ c = c' ∧ x = y := by
    intro l
    induction l with
    | nil =>
      intro l' _ hl' hh
      cases l' with
      | nil =>
        simp at hh
        exact ⟨rfl, hh.1, hh.2⟩
      | cons z l' =>
        simp at hh
        have := hl' z (by simp)
        omega
    | cons w l ih =>
      intro l' hl hl' hh
      cases l' with
      | nil =>
        simp at hh
        have := hl w (by simp)
        omega
      | cons z l' =>
        simp only [List.cons_append, List.cons.injEq] at hh
        obtain ⟨r1, r2, r3⟩ := ih l' (fun x hx => hl x (by simp [hx])) (fun x hx => hl' x (by simp [hx])) hh.2
        exact ⟨by rw [hh.1, r1], r2, r3⟩
  rw [h1, g1] at h
  obtain ⟨r1, r2, r3⟩ := key l l' h3 g3 h
  refine ⟨?_, r3⟩
  rw [← valL_enc n, ← valL_enc m, h1, g1, r1, r2]
end Go.TV.F
/- Plain Lean: names of an intent. -/
set_option maxRecDepth 100000
namespace Go.TV.F
open Go.TV
theorem fileName_all (k : Nat) (hk : k < 12) : ∃ t, impl_FileName (k : Int) = some t ∧ spec_FileName (k : Int) = some t ∧ t.size ≤ 101 := by
  have one : ∀ (n : Nat) (d : UInt8), n < 10 → n ≠ 0 → spec_Decimal_l1 (n : Int) (ByteArray.mk #[]) = some (.inl (0, ByteArray.mk #[d])) → spec_Decimal (n : Int) = some (ByteArray.mk #[d]) := fun n d hn h0 h => by
    unfold spec_Decimal
    rw [ifF (by simp; omega), loopM_eq, h]
    simp only [Option.bind_some]
    rw [loopM_eq]
    rw [show spec_Decimal_l1 0 (ByteArray.mk #[d]) = some (.inr (ByteArray.mk #[d])) from rfl]
    simp only [Option.bind_some]
    unfold spec_Decimal_j1
    rw [ifF (by simp)]
  have two : ∀ (n : Nat) (d c : UInt8), 0 < n → spec_Decimal_l1 (n : Int) (ByteArray.mk #[]) = some (.inl (1, ByteArray.mk #[d])) → spec_Decimal_l1 1 (ByteArray.mk #[d]) = some (.inl (0, ByteArray.mk #[c, d])) → spec_Decimal (n : Int) = some (ByteArray.mk #[c, d]) := fun n d c h0 h h' => by
    unfold spec_Decimal
    rw [ifF (by simp; omega), loopM_eq, h]
    simp only [Option.bind_some]
    rw [loopM_eq, h']
    simp only [Option.bind_some]
    rw [loopM_eq]
    rw [show spec_Decimal_l1 0 (ByteArray.mk #[c, d]) = some (.inr (ByteArray.mk #[c, d])) from rfl]
    simp only [Option.bind_some]
    unfold spec_Decimal_j1
    rw [ifF (by simp)]
  have fin : ∀ (n : Nat) (t : ByteArray), spec_l01In (n : Int) 0 11 = some true → spec_Decimal (n : Int) = some t → t.size ≤ 100 → impl_FileName (n : Int) = some (ByteArray.mk #[119] ++ t) → ∃ t, impl_FileName (n : Int) = some t ∧ spec_FileName (n : Int) = some t ∧ t.size ≤ 101 := fun n t h1 h2 h4 h3 => by
    refine ⟨_, h3, ?_, by rw [ByteArray.size_append]; have : (ByteArray.mk #[119]).size = 1 := rfl; omega⟩
    unfold spec_FileName
    rw [h1, Option.bind_some, ifF (by simp), h2, Option.bind_some, sapp_in (by have : (ByteArray.mk #[119]).size = 1 := rfl; omega)]
    rfl
  have hk' : k = 0 ∨ k = 1 ∨ k = 2 ∨ k = 3 ∨ k = 4 ∨ k = 5 ∨ k = 6 ∨ k = 7 ∨ k = 8 ∨ k = 9 ∨ k = 10 ∨ k = 11 := by omega
  rcases hk' with rfl | rfl | rfl | rfl | rfl | rfl | rfl | rfl | rfl | rfl | rfl | rfl
  · exact fin 0 (ByteArray.mk #[48]) rfl rfl (by decide) rfl
  · exact fin 1 (ByteArray.mk #[49]) rfl (one 1 49 (by omega) (by omega) rfl) (by decide) rfl
  · exact fin 2 (ByteArray.mk #[50]) rfl (one 2 50 (by omega) (by omega) rfl) (by decide) rfl
  · exact fin 3 (ByteArray.mk #[51]) rfl (one 3 51 (by omega) (by omega) rfl) (by decide) rfl
  · exact fin 4 (ByteArray.mk #[52]) rfl (one 4 52 (by omega) (by omega) rfl) (by decide) rfl
  · exact fin 5 (ByteArray.mk #[53]) rfl (one 5 53 (by omega) (by omega) rfl) (by decide) rfl
  · exact fin 6 (ByteArray.mk #[54]) rfl (one 6 54 (by omega) (by omega) rfl) (by decide) rfl
  · exact fin 7 (ByteArray.mk #[55]) rfl (one 7 55 (by omega) (by omega) rfl) (by decide) rfl
  · exact fin 8 (ByteArray.mk #[56]) rfl (one 8 56 (by omega) (by omega) rfl) (by decide) rfl
  · exact fin 9 (ByteArray.mk #[57]) rfl (one 9 57 (by omega) (by omega) rfl) (by decide) rfl
  · exact fin 10 (ByteArray.mk #[49, 48]) rfl (two 10 48 49 (by omega) rfl rfl) (by decide) rfl
  · exact fin 11 (ByteArray.mk #[49, 49]) rfl (two 11 49 49 (by omega) rfl rfl) (by decide) rfl
noncomputable def fnm (k : Nat) : ByteArray := (spec_FileName (k : Int)).getD (ByteArray.mk #[])
theorem fnm_I {k : Nat} (hk : k < 12) : impl_FileName (k : Int) = some (fnm k) := by
  obtain ⟨t, h1, h2, _⟩ := fileName_all k hk
  unfold fnm
  rw [h1, h2]
  rfl
theorem fnm_S {k : Nat} (hk : k < 12) : spec_FileName (k : Int) = some (fnm k) := by
  obtain ⟨t, h1, h2, _⟩ := fileName_all k hk
  unfold fnm
  rw [h2]
  rfl
theorem fnm_size {k : Nat} (hk : k < 12) : (fnm k).size ≤ 101 := by
  obtain ⟨t, h1, h2, h3⟩ := fileName_all k hk
  unfold fnm
  rw [h2]
  exact h3
noncomputable def isNm (x : ByteArray) : Bool := (x.toList == (ByteArray.mk #[99, 111, 109, 109, 105, 116, 115]).toList) || !((List.range 12).all fun k => !(x.toList == (fnm k).toList))
theorem isNmI_eq (x : ByteArray) : impl_isImageName x = some (isNm x) := by
  unfold impl_isImageName isNm
  cases h : x.toList == (ByteArray.mk #[99, 111, 109, 109, 105, 116, 115]).toList with
  | true => rfl
  | false =>
    rw [ifF (by simp)]
    have := loopM_all (body := fun s' => impl_isImageName_l1 x s') (good := .inr ()) (bad := .inl true) (fun k => (k : Int)) 12 (fun k => !(x.toList == (fnm k).toList)) (fun k hk _ hp => by
      unfold impl_isImageName_l1
      rw [ifT (by simp; omega), fnm_I hk, Option.bind_some, Bool.beq_comm, ifF (by simpa using hp), wk64 (by omega) (by omega)]
      rfl) (fun k hk _ hp => by
      unfold impl_isImageName_l1
      rw [ifT (by simp; omega), fnm_I hk, Option.bind_some, Bool.beq_comm, ifT (by simpa using hp)]) (fun _ => by
      unfold impl_isImageName_l1
      rw [ifF (by simp)])
    have e0 : ((0 : Nat) : Int) = 0 := rfl
    rw [e0] at this
    rw [this]
    cases (List.range 12).all fun k => !(x.toList == (fnm k).toList) <;> rfl
theorem isNmS_eq (x : ByteArray) : spec_l18IsName x = some (isNm x) := by
  unfold spec_l18IsName isNm
  have := loopM_all (body := fun s' => spec_l18IsName_l1 x s') (good := .inr ()) (bad := .inl true) (fun k => (k : Int)) 12 (fun k => !(x.toList == (fnm k).toList)) (fun k hk _ hp => by
    unfold spec_l18IsName_l1
    rw [ifT (by simp; omega), fnm_S hk, Option.bind_some, ifF (by simpa using hp), wk64 (by omega) (by omega)]
    rfl) (fun k hk _ hp => by
    unfold spec_l18IsName_l1
    rw [ifT (by simp; omega), fnm_S hk, Option.bind_some, ifT (by simpa using hp)]) (fun _ => by
    unfold spec_l18IsName_l1
    rw [ifF (by simp)])
  have e0 : ((0 : Nat) : Int) = 0 := rfl
  rw [e0] at this
  rw [this]
  unfold spec_l18IsName_j1
  cases (List.range 12).all fun k => !(x.toList == (fnm k).toList) <;> simp
def e0 : ByteArray := ByteArray.mk #[]
noncomputable def nmAt (l : List ByteArray) (i : Nat) : Bool := isNm (l.getD i e0) && (i == 0 || Op.bytesLess (l.getD (i - 1) e0).toList (l.getD i e0).toList)
noncomputable def okNms (l : List ByteArray) : Bool := (List.range l.length).all (nmAt l)
theorem intentOk_eq {l : List ByteArray} (hl : l.length ≤ 13) : impl_intentOk l = some (okNms l) := by
  unfold impl_intentOk okNms
  have cond : ∀ (k : Nat) (hk : k < l.length), ((if (!isNm l[k]) = true then some true else (if (decide ((k : Int) > 0)) = true then (geti l (wk .i64 ((k : Int) - 1))).bind fun x_1 => some (Op.bytesLess l[k].toList x_1.toList || l[k].toList == x_1.toList) else some false).bind fun b_1 => some b_1)) = some (!nmAt l k) := fun k hk => by
    unfold nmAt
    rw [getD_in hk]
    cases isNm l[k] with
    | false => rfl
    | true =>
      simp only [Bool.not_true, Bool.false_eq_true, if_false, Bool.true_and]
      by_cases q : k = 0
      · subst q
        rfl
      · rw [ifT (by simp; omega), wk64 (by omega) (by omega), geti_in (by omega) (by omega)]
        simp only [Option.bind_some]
        have e : ((k : Int) - 1).toNat = k - 1 := by omega
        have q' : (k == 0) = false := by simpa using q
        rw [bl_tri, q', getD_in (show k - 1 < l.length by omega)]
        simp only [e, Bool.false_or]
  have := loopM_all (body := fun s' => impl_intentOk_l1 l s') (good := .inr ()) (bad := .inl false) (fun k => (k : Int)) l.length (nmAt l) (fun k hk _ hp => by
    unfold impl_intentOk_l1
    rw [ifT (by simpa using hk), geti_nat, List.getElem?_eq_getElem hk, Option.bind_some, isNmI_eq, Option.bind_some, cond k hk, Option.bind_some, hp, ifF (by simp), wk64 (by omega) (by omega)]
    rfl) (fun k hk _ hp => by
    unfold impl_intentOk_l1
    rw [ifT (by simpa using hk), geti_nat, List.getElem?_eq_getElem hk, Option.bind_some, isNmI_eq, Option.bind_some, cond k hk, Option.bind_some, hp, ifT (by simp)]) (fun _ => by
    unfold impl_intentOk_l1
    rw [ifF (by simp)])
  have ez : ((0 : Nat) : Int) = 0 := rfl
  rw [ez] at this
  rw [this]
  unfold impl_intentOk_j1
  cases (List.range l.length).all (nmAt l) with
  | true =>
    simp
    omega
  | false => rfl
theorem encL_lenN : ∀ n : Nat, (encL n).length ≤ n + 1 := by
  intro n
  induction n using Nat.strongRecOn with
  | _ n ih =>
    by_cases q : n ≤ 127
    · rw [encL_lo q]
      simp
    · rw [encL_hi q]
      have := ih (n / 128) (by omega)
      simp
      omega
theorem encS_szN (n : Nat) : (encS n).size ≤ n + 1 := by
  have := encL_lenN n
  rw [← nb_len, nb_encS]
  exact this
theorem short_eq {x : ByteArray} (h : x.size ≤ 60000) : spec_l17Short x = some (encS x.size ++ x) := by
  unfold spec_l17Short
  have := encS_szN x.size
  rw [l01Var_eq (by omega), Option.bind_some, sapp_in (by omega)]
  rfl
def tiS (l : List ByteArray) : ByteArray := ByteArray.mk #[84, 73, 49] ++ encS l.length
def accS (l : List ByteArray) (k : Nat) : ByteArray := (l.take k).foldl (fun s x => s ++ (encS x.size ++ x)) (tiS l)
theorem accS_succ {l : List ByteArray} {k : Nat} (hk : k < l.length) : accS l (k + 1) = accS l k ++ (encS l[k].size ++ l[k]) := by
  unfold accS
  rw [List.take_add_one, List.getElem?_eq_getElem hk, List.foldl_append]
  rfl
theorem accS_size {l : List ByteArray} (hl : l.length ≤ 13) (hx : ∀ x ∈ l, x.size ≤ 60000) : ∀ k, k ≤ l.length → (accS l k).size ≤ 20 + k * 120010
  | 0, _ => by
    have := encS_szN l.length
    show (tiS l).size ≤ _
    unfold tiS
    rw [ByteArray.size_append]
    have : (ByteArray.mk #[84, 73, 49]).size = 3 := rfl
    omega
  | k + 1, h => by
    have ih := accS_size hl hx k (by omega)
    rw [accS_succ (by omega), ByteArray.size_append, ByteArray.size_append]
    have := encS_szN (l[k]'(by omega)).size
    have := hx _ (List.getElem_mem (show k < l.length by omega))
    omega
def encNm (l : List ByteArray) : List Nat := encL l.length ++ (l.map fun x => encL x.size ++ nb x).flatten
theorem accS_nb (l : List ByteArray) : nb (accS l l.length) = nb (ByteArray.mk #[84, 73, 49]) ++ encNm l := by
  unfold accS encNm
  rw [List.take_length]
  have key : ∀ (m : List ByteArray) (s : ByteArray), nb (m.foldl (fun s x => s ++ (encS x.size ++ x)) s) = nb s ++ (m.map fun x => encL x.size ++ nb x).flatten := by
    intro m
    induction m with
    | nil => intro s; simp
    | cons x m ih =>
      intro s
      rw [List.foldl_cons, ih, nb_append, nb_append, nb_encS]
      simp
  rw [key]
  unfold tiS
  rw [nb_append, nb_encS]
  simp
theorem intentText_eq {l : List ByteArray} (hl : l.length ≤ 13) (hx : ∀ x ∈ l, x.size ≤ 60000) : spec_IntentText l = if okNms l = true then (spec_Sealed (accS l l.length)).bind fun r => some (r.1, r.2) else some (ByteArray.mk #[], false) := by
  unfold spec_IntentText okNms
  have hsz := accS_size hl hx
  rw [ifF (by simp; omega), l01Var_eq (by omega), Option.bind_some, sapp_in (by have := hsz 0 (by omega); have := encS_szN l.length; have : (ByteArray.mk #[84, 73, 49]).size = 3 := rfl; omega), Option.bind_some]
  have cond : ∀ (k : Nat) (hk : k < l.length), ((if (!isNm l[k]) = true then some true else (if (decide ((k : Int) > 0)) = true then (geti l (wk .i64 ((k : Int) - 1))).bind fun x_1 => some (!Op.bytesLess x_1.toList l[k].toList) else some false).bind fun b_1 => some b_1)) = some (!nmAt l k) := fun k hk => by
    unfold nmAt
    rw [getD_in hk]
    cases isNm l[k] with
    | false => rfl
    | true =>
      simp only [Bool.not_true, Bool.false_eq_true, if_false, Bool.true_and]
      by_cases q : k = 0
      · subst q
        rfl
      · rw [ifT (by simp; omega), wk64 (by omega) (by omega), geti_in (by omega) (by omega)]
        simp only [Option.bind_some]
        have e : ((k : Int) - 1).toNat = k - 1 := by omega
        have q' : (k == 0) = false := by simpa using q
        rw [q', getD_in (show k - 1 < l.length by omega)]
        simp only [e, Bool.false_or]
  have := loopM_all (body := fun (s' : ByteArray × Int) => spec_IntentText_l1 l s'.1 s'.2) (good := .inr (accS l l.length)) (bad := .inl (ByteArray.mk #[], false)) (fun k => (accS l k, (k : Int))) l.length (nmAt l) (fun k hk _ hp => by
    show spec_IntentText_l1 l (accS l k) (k : Int) = _
    unfold spec_IntentText_l1
    have hxk := hx _ (List.getElem_mem hk)
    have := hsz k (by omega)
    have := encS_szN l[k].size
    rw [ifT (by simpa using hk), geti_nat, List.getElem?_eq_getElem hk, Option.bind_some, isNmS_eq, Option.bind_some, cond k hk, Option.bind_some, hp, ifF (by simp), Option.bind_some, short_eq hxk, Option.bind_some, sapp_in (by rw [ByteArray.size_append]; omega), Option.bind_some, wk64 (by omega) (by omega), accS_succ hk]
    rfl) (fun k hk _ hp => by
    show spec_IntentText_l1 l (accS l k) (k : Int) = _
    unfold spec_IntentText_l1
    rw [ifT (by simpa using hk), geti_nat, List.getElem?_eq_getElem hk, Option.bind_some, isNmS_eq, Option.bind_some, cond k hk, Option.bind_some, hp, ifT (by simp)]) (fun _ => by
    show spec_IntentText_l1 l (accS l l.length) (l.length : Int) = _
    unfold spec_IntentText_l1
    rw [ifF (by simp)])
  have ez : ((0 : Nat) : Int) = 0 := rfl
  simp only [ez] at this
  have e1 : accS l 0 = ByteArray.mk #[84, 73, 49] ++ encS l.length := rfl
  rw [e1] at this
  rw [this]
  unfold spec_IntentText_j1
  cases (List.range l.length).all (nmAt l) with
  | true => rfl
  | false => rfl
end Go.TV.F
/- Plain Lean: ReadIntent is the reference's. -/
namespace Go.TV.F
open Go.TV
theorem mark_sim {text : ByteArray} (ht : text.size ≤ 60000) {s : T_impl_scanner} {c : T_spec_l08Cur} (h : Sim text s c) (mark : ByteArray) (hm : mark.size ≤ 100) (hm1 : 0 < mark.size) : ∃ s' t c', impl_scanner_mark s mark = some s' ∧ spec_l08Take c (mark.size : Int) = some (t, c') ∧ (∃ c2, Sim text s' c2) ∧
    ((!(t.toList == mark.toList)) = false → Sim text s' c' ∧ (s'.bad = false → s.bad = false ∧ Rd text s s' (nb mark))) ∧ ((!(t.toList == mark.toList)) = true → s'.bad = true) := by
  obtain ⟨t, s1, c', h1, h2, h3, h4, _⟩ := take_sim ht h (n := mark.size) (by omega)
  unfold impl_scanner_mark
  rw [show T_impl_scanner.mk s.text s.at_ s.bad = s from rfl, h1, h2]
  simp only [Option.bind_some]
  cases q : !(t.toList == mark.toList) with
  | true =>
    simp only [if_true]
    obtain ⟨a, b, g1, g2, g3, g4, g5⟩ := h3.at_
    exact ⟨_, t, c', rfl, rfl, ⟨⟨text, s1.at_, true⟩, h3.st, rfl, rfl, a, a, g1, g1, g3, g3, fun h => by cases h⟩, (fun h => absurd (q.symm.trans h) (by decide)), fun _ => rfl⟩
  | false =>
    simp only [Bool.false_eq_true, if_false]
    refine ⟨_, t, c', rfl, rfl, ⟨c', h3⟩, fun _ => ⟨h3, fun hb => ⟨(h4 hb).1, ?_⟩⟩, fun h => absurd (q.symm.trans h) (by decide)⟩
    have e : nb t = nb mark := by
      rw [beq_nb] at q
      simpa using q
    rw [← e]
    exact (h4 hb).2.2
theorem four_eq {s : ByteArray} (hs : s.size ≤ 1000000000) : ∃ u : ByteArray, u.size = 4 ∧ (∀ t, spec_SumOf s = some t → spec_l02Four t = some u) ∧ (∃ t, spec_SumOf s = some t ∧ spec_l02Four t = some u ∧ impl_sumText s = some u) := by
  obtain ⟨r, h1, h2, h3⟩ := sumOf_eq (text := s) hs
  refine ⟨mkS [(wk .u8 (shrI .u32 r 24)), (wk .u8 (shrI .u32 r 16)), (wk .u8 (shrI .u32 r 8)), (wk .u8 r)], ?_, ?_, r, h2, rfl, ?_⟩
  · rw [mkS_size]
    rfl
  · intro t ht
    rw [h2] at ht
    injection ht with ht
    subst ht
    rfl
  · unfold impl_sumText
    rw [h1]
    rfl
theorem sealedS_eq {s : ByteArray} : spec_Sealed s = if s.size > 60000 then some (ByteArray.mk #[], false) else (spec_SumOf s).bind fun x9 => (spec_l02Four x9).bind fun x10 => some (s ++ x10, true) := by
  unfold spec_Sealed
  by_cases q : s.size > 60000
  · rw [ifT (by simp; omega), if_pos q]
  · rw [ifF (by simp; omega), if_neg q]
    obtain ⟨u, h1, h2, t, h3, h4, _⟩ := four_eq (s := s) (by omega)
    simp only [h3, h4, Option.bind_some]
    rw [sapp_in (by omega)]
    rfl
/-- What is left of a sealed text, and how it was sealed. -/
theorem unsealed2 {text : ByteArray} (ht : text.size ≤ 1000000000) : ∃ t ok, impl_Unsealed text = some (t, ok) ∧ spec_Unsealed text = some (t, ok) ∧ t.size ≤ 60000 ∧ (ok = true → spec_Sealed t = some (text, true)) ∧ (∀ s, spec_Sealed s = some (text, true) → s = t ∧ ok = true) := by
  obtain ⟨t, ok, h1, h2, h3⟩ := unsealed_eq ht
  have hs := h2
  unfold spec_Unsealed at hs
  rw [wk64 (x := (text.size : Int) - 4) (by omega) (by omega)] at hs
  have back : ∀ s, spec_Sealed s = some (text, true) → ∃ u : ByteArray, s.size ≤ 60000 ∧ u.size = 4 ∧ text = s ++ u ∧ ∃ x, spec_SumOf s = some x ∧ spec_l02Four x = some u := by
    intro s h
    rw [sealedS_eq] at h
    by_cases q : s.size > 60000
    · rw [if_pos q] at h
      injection h with h
      injection h with _ h
      cases h
    · rw [if_neg q] at h
      obtain ⟨u, g1, g2, x, g3, g4, _⟩ := four_eq (s := s) (by omega)
      rw [g3, Option.bind_some, g4, Option.bind_some] at h
      injection h with h
      injection h with h _
      exact ⟨u, by omega, g1, h.symm, x, g3, g4⟩
  refine ⟨t, ok, h1, h2, h3, ?_, ?_⟩
  · intro hok
    subst hok
    by_cases q : (text.size : Int) - 4 < 0
    · rw [ifT (by simpa using q)] at hs
      simp at hs
    rw [ifF (by simpa using q)] at hs
    simp only [Option.bind_some] at hs
    by_cases q2 : (text.size : Int) - 4 > 60000
    · rw [decide_eq_true q2] at hs
      simp at hs
    rw [decide_eq_false q2] at hs
    simp only [Bool.false_eq_true, if_false] at hs
    rw [subL_in (by omega) (by omega), subH_in (by omega) (by omega)] at hs
    simp only [Option.bind_some] at hs
    have hsz : (text.extract 0 ((text.size : Int) - 4).toNat).size = text.size - 4 := by
      rw [ByteArray.size_extract]
      omega
    obtain ⟨u, g1, g2, x, g3, g4, _⟩ := four_eq (s := text.extract 0 ((text.size : Int) - 4).toNat) (by omega)
    rw [g3, Option.bind_some, g4] at hs
    simp only [Option.bind_some] at hs
    cases e : (!((text.extract ((text.size : Int) - 4).toNat text.size).toList == u.toList)) with
    | true =>
      rw [e] at hs
      simp at hs
    | false =>
      rw [e] at hs
      simp only [Bool.false_eq_true, if_false, Option.some.injEq, Prod.mk.injEq, and_true] at hs
      subst hs
      rw [sealedS_eq, if_neg (by omega), g3, Option.bind_some, g4, Option.bind_some]
      congr 2
      apply nb_inj
      rw [beq_nb] at e
      have e' : nb (text.extract ((text.size : Int) - 4).toNat text.size) = nb u := by simpa using e
      rw [nb_append, ← e', nb_extract, nb_extract]
      have hl := nb_len text
      have hk : ((text.size : Int) - 4).toNat = text.size - 4 := by omega
      rw [hk, Nat.sub_zero, List.drop_zero, List.take_of_length_le (l := (nb text).drop (text.size - 4)) (by rw [List.length_drop]; omega), List.take_append_drop]
  · intro s h
    obtain ⟨u, g1, g2, rfl, x, g3, g4⟩ := back s h
    have hsu : (s ++ u).size = s.size + 4 := by rw [ByteArray.size_append, g2]
    have ex1 : (s ++ u).extract 0 (((s ++ u).size : Int) - 4).toNat = s := by
      apply nb_inj
      rw [nb_extract, nb_append, List.drop_zero, Nat.sub_zero, show (((s ++ u).size : Int) - 4).toNat = (nb s).length by rw [nb_len]; omega, List.take_left]
    have ex2 : (s ++ u).extract (((s ++ u).size : Int) - 4).toNat (s ++ u).size = u := by
      apply nb_inj
      have hu := nb_len u
      have hs' := nb_len s
      rw [nb_extract, nb_append, show (((s ++ u).size : Int) - 4).toNat = (nb s).length by rw [nb_len]; omega, List.drop_left, List.take_of_length_le (by omega)]
    rw [ifF (by simp; omega)] at hs
    simp only [Option.bind_some] at hs
    rw [decide_eq_false (by omega)] at hs
    simp only [Bool.false_eq_true, if_false] at hs
    rw [subL_in (by omega) (by omega), subH_in (by omega) (by omega)] at hs
    simp only [Option.bind_some, ex1, ex2, g3, g4, beq_self_eq_true, Bool.not_true, Bool.false_eq_true, if_false, Option.some.injEq, Prod.mk.injEq] at hs
    exact ⟨hs.1, hs.2.symm⟩
theorem intents_run {t : ByteArray} (h3 : t.size ≤ 60000) {s1 : T_impl_scanner} {c : T_spec_l08Cur} (hc : Sim t s1 c) : ∃ (n : Nat) (s2 s' : T_impl_scanner) (c2 c' : T_spec_l08Cur) (l l' : List ByteArray), impl_scanner_count s1 13 = some ((n : Int), s2) ∧ spec_l08Var c 13 = some ((n : Int), c2) ∧
      loopM (fun (s' : Int × ByteArray × Int × Bool × (List ByteArray)) => impl_ReadIntent_l1 ((n : Int), s2) s'.1 s'.2.1 s'.2.2.1 s'.2.2.2.1 s'.2.2.2.2) (0, s2.text, s2.at_, s2.bad, []) = some (s'.text, s'.at_, s'.bad, l) ∧
      loopM (fun (s' : Int × ByteArray × Int × Bool × (List ByteArray)) => spec_ReadIntent_l1 ((n : Int), c2) s'.1 s'.2.1 s'.2.2.1 s'.2.2.2.1 s'.2.2.2.2) (0, c2.text, c2.at_, c2.bad, []) = some (c'.text, c'.at_, c'.bad, l') ∧ Sim t s' c' ∧ l'.length ≤ 13 ∧ (∀ y ∈ l', y.size ≤ 60000) ∧
      (s'.bad = false → l = l' ∧ s1.bad = false ∧ Rd t s1 s' (encNm l)) := by
  obtain ⟨n, s2, c2, k1, k2, k3, k4, k5⟩ := count_sim h3 hc (most := 13) (by omega)
  obtain ⟨s', l, c', l', q1, q2, q3, q5, q6, q4⟩ := items_sim (text := t) (I := impl_scanner_short) (G := spec_l08Short) (fun x : ByteArray => encL x.size ++ nb x) (fun x => x.size ≤ 60000) (fun x => x.size ≤ 60000) (n := n)
    (f := fun (s' : Int × ByteArray × Int × Bool × (List ByteArray)) => impl_ReadIntent_l1 ((n : Int), s2) s'.1 s'.2.1 s'.2.2.1 s'.2.2.2.1 s'.2.2.2.2)
    (g := fun (s' : Int × ByteArray × Int × Bool × (List ByteArray)) => spec_ReadIntent_l1 ((n : Int), c2) s'.1 s'.2.1 s'.2.2.1 s'.2.2.2.1 s'.2.2.2.2)
    (fun s c hs => by
      obtain ⟨x, s', c', g1, g2, g3, g4, g5⟩ := short_sim h3 hs
      exact ⟨x, s', x, c', g1, g2, g3, g4, fun hb => ⟨rfl, g4, (g5 hb).1, (g5 hb).2⟩⟩)
    (fun k t a b out hk ho => by
      simp only [impl_ReadIntent_l1]
      rw [ifT (by simpa using hk)]
      congr 1
      funext r
      rw [appn_in (by simp; omega), Option.bind_some, wkS k (by omega)])
    (fun t a b out => by
      simp only [impl_ReadIntent_l1]
      rw [ifF (by simp)])
    (fun k t a out hk ho => by
      simp only [spec_ReadIntent_l1]
      rw [ifT (by simpa using hk)]
      simp only [Option.bind_some, Bool.not_false, if_true]
      congr 1
      funext r
      rw [appn_in (by simp; omega), Option.bind_some, wkS k (by omega)])
    (fun k t a out hk => by
      simp only [spec_ReadIntent_l1]
      by_cases q : k < n
      · rw [ifT (by simpa using q)]
        simp only [Option.bind_some, Bool.not_true, Bool.false_eq_true, if_false]
      · rw [ifF (by simpa using q)]
        simp only [Option.bind_some, Bool.false_eq_true, if_false])
    (fun t a b out => by
      simp only [spec_ReadIntent_l1]
      rw [ifF (by simp)]
      simp only [Option.bind_some, Bool.false_eq_true, if_false])
    k3
  refine ⟨n, s2, s', c2, c', l, l', k1, k2, q1, q2, q3, by omega, q6, fun hb => ?_⟩
  obtain ⟨p1, p2, p3, p4, p5⟩ := q4 hb
  exact ⟨p1, (k5 p2).1, by unfold encNm; rw [p3]; exact (k5 p2).2.trans p5⟩
theorem seg_all (t : ByteArray) : seg t 0 t.size = nb t := by
  unfold seg
  rw [List.drop_zero, Nat.sub_zero, ← nb_len, List.take_length]
/-- ReadIntent. -/
theorem readIntent_eq {text : ByteArray} (ht : text.size ≤ 1000000000) : ∃ l ok, impl_ReadIntent text = some (l, ok) ∧ spec_ReadIntent text = some (l, ok) ∧ l.length ≤ 13 ∧ ∀ y ∈ l, y.size ≤ 60000 := by
  obtain ⟨t, ok, h1, h2, h3, h4, h5⟩ := unsealed2 ht
  unfold impl_ReadIntent spec_ReadIntent
  rw [h1, h2]
  simp only [Option.bind_some]
  have hs : Sim t ⟨t, 0, !ok⟩ ⟨t, 0, !ok⟩ := ⟨rfl, rfl, rfl, 0, 0, rfl, rfl, by omega, by omega, fun _ => rfl⟩
  obtain ⟨s1, u, c1, g1, g2, ⟨c1', g3⟩, g4, g5⟩ := mark_sim h3 hs (ByteArray.mk #[84, 73, 49]) (by decide) (by decide)
  have g2' : spec_l08Take ⟨t, 0, !ok⟩ 3 = some (u, c1) := g2
  rw [g1, g2']
  simp only [Option.bind_some]
  -- the reference's way, from wherever it stands
  have hseal : ∀ l : List ByteArray, l.length ≤ 13 → (∀ y ∈ l, y.size ≤ 60000) → ∃ r b, spec_IntentText l = some (r, b) ∧ (b = true → okNms l = true ∧ spec_Sealed (accS l l.length) = some (r, b)) ∧ (okNms l = true → spec_Sealed (accS l l.length) = some (r, b)) := by
    intro l hl hy
    rw [intentText_eq hl hy]
    cases q : okNms l with
    | false => exact ⟨_, _, rfl, (fun h => by cases h), (fun h => by cases h)⟩
    | true =>
      simp only [if_true]
      have hsz := accS_size hl hy l.length (Nat.le_refl _)
      rw [sealedS_eq]
      by_cases z : (accS l l.length).size > 60000
      · rw [if_pos z]
        exact ⟨_, _, rfl, (fun _ => ⟨trivial, rfl⟩), (fun _ => rfl)⟩
      · rw [if_neg z]
        obtain ⟨v, e1, e2, x, e3, e4, _⟩ := four_eq (s := accS l l.length) (by omega)
        rw [e3, Option.bind_some, e4]
        exact ⟨_, _, rfl, (fun _ => ⟨trivial, rfl⟩), (fun _ => rfl)⟩
  cases q : !(u.toList == (ByteArray.mk #[84, 73, 49]).toList) with
  | true =>
    obtain ⟨n, s2, s', c2, c', l, l', k1, k2, k3, k4, k5, k7, k8, k6⟩ := intents_run h3 g3
    have hb : s'.bad = true := by
      cases r : s'.bad with
      | true => rfl
      | false =>
        have := (k6 r).2.1
        rw [g5 q] at this
        cases this
    obtain ⟨tk, sk, ck, y1, y2, y3, y4, y5, y6, y7⟩ := take_sim h3 hs (n := 3) (by omega)
    have y2' : spec_l08Take ⟨t, 0, !ok⟩ 3 = some (tk, ck) := y2
    rw [g2'] at y2'
    injection y2' with y2'
    injection y2' with e1 e2
    subst e1 e2
    obtain ⟨n2, t2, t', d2, d', m, m', z1, z2, z3, z4, z5, z7, z8, z6⟩ := intents_run h3 y3
    obtain ⟨r, b, w1, w2, w3⟩ := hseal m' z7 z8
    simp only [k1, Option.bind_some, k3, impl_ReadIntent_j1, impl_scanner_done, hb, Bool.not_true, Bool.false_eq_true, if_false, Bool.not_false, if_true, z2, z4, spec_ReadIntent_j1, w1]
    refine ⟨[], false, rfl, ?_, by simp⟩
    cases eb : d'.bad with
    | true => simp only [if_true, Option.bind_some]
    | false =>
      cases b with
      | false => simp only [Bool.false_eq_true, if_false, Bool.not_false, Option.bind_some, if_true]
      | true =>
        simp only [Bool.false_eq_true, if_false, Bool.not_true, Option.bind_some]
        cases ee : (!(r.toList == text.toList)) with
        | true => simp only [if_true]
        | false =>
          exfalso
          rw [beq_nb] at ee
          have er : r = text := nb_inj (by simpa using ee)
          subst er
          obtain ⟨o1, o2⟩ := w2 rfl
          obtain ⟨p1, p2⟩ := h5 _ o2
          subst p2
          have hst : t'.bad = false := by rw [z5.bad, eb]
          obtain ⟨_, x2, _⟩ := z6 hst
          obtain ⟨_, x4, a, b', x5, x6, x7, x8, x9⟩ := y4 x2
          have ha0 : a = 0 := by simp only at x5; omega
          subst ha0
          have hnt := congrArg nb p1
          rw [accS_nb] at hnt
          have hsz : 3 ≤ t.size := by
            have := congrArg List.length hnt
            rw [List.length_append, nb_len, nb_len] at this
            have e3 : (ByteArray.mk #[84, 73, 49]).size = 3 := rfl
            omega
          have := y6 0 rfl (by omega) (by rfl)
          rw [beq_nb] at q
          have hne : ¬ nb u = nb (ByteArray.mk #[84, 73, 49]) := by simpa using q
          apply hne
          rw [this.2.2, nb_extract, ← hnt]
          rfl
  | false =>
    obtain ⟨n, s2, s', c2, c', l, l', k1, k2, k3, k4, k5, k7, k8, k6⟩ := intents_run h3 (g4 q).1
    obtain ⟨r, b, w1, w2, w3⟩ := hseal l' k7 k8
    simp only [k1, k2, Option.bind_some, k3, k4, impl_ReadIntent_j1, spec_ReadIntent_j1, impl_scanner_done, w1]
    have hcb := k5.bad
    cases rb : s'.bad with
    | true =>
      rw [rb] at hcb
      simp only [← hcb, Bool.not_true, Bool.false_eq_true, if_false, Option.bind_some, Bool.not_false, if_true]
      exact ⟨_, _, rfl, rfl, by simp⟩
    | false =>
      rw [rb] at hcb
      obtain ⟨rfl, p2, p3⟩ := k6 rb
      obtain ⟨p4, p5⟩ := (g4 q).2 p2
      have hok : ok = true := by simpa using p4
      subst hok
      obtain ⟨a, b', z1, z2, z3, z4, z5⟩ := (p5.trans p3)
      have ha0 : a = 0 := by simp only at z1; omega
      subst ha0
      obtain ⟨a2, b2, y1, y2, y3, y4, y5⟩ := k5.at_
      have := y5 rb
      subst this
      have hab : a2 = b' := by omega
      subst hab
      rw [← accS_nb] at z5
      have hlen : (accS l l.length).size = a2 := by
        rw [← nb_len, ← z5]
        unfold seg
        rw [List.length_take, List.length_drop, nb_len]
        omega
      simp only [← hcb, Bool.not_false, if_true, Option.bind_some, Bool.false_eq_true, if_false, y1, k5.st, intentOk_eq k7]
      by_cases e : a2 = t.size
      · have et : accS l l.length = t := by
          apply nb_inj
          rw [← z5, e, seg_all]
        have d1 : ((a2 : Int) == (t.size : Int)) = true := by simp [e]
        rw [d1]
        simp only [Bool.not_true, Bool.false_eq_true, if_false, Option.bind_some]
        cases qo : okNms l with
        | false =>
          have hbf : b = false := by
            cases b with
            | false => rfl
            | true => have := (w2 rfl).1; rw [qo] at this; cases this
          subst hbf
          simp only [Bool.not_false, if_true, Option.bind_some]
          exact ⟨_, _, rfl, rfl, by simp⟩
        | true =>
          have := w3 qo
          rw [et, h4 rfl] at this
          injection this with this
          injection this with e1 e2
          subst e1 e2
          simp only [Bool.not_true, Bool.false_eq_true, if_false, Option.bind_some, beq_self_eq_true]
          exact ⟨_, _, rfl, rfl, k7, k8⟩
      · have d1 : ((a2 : Int) == (t.size : Int)) = false := by simp; omega
        rw [d1]
        simp only [Bool.not_false, if_true, Option.bind_some]
        refine ⟨[], false, rfl, ?_, by simp⟩
        cases b with
        | false => simp only [Bool.not_false, Option.bind_some, if_true]
        | true =>
          simp only [Bool.false_eq_true, if_false, Bool.not_true, Option.bind_some]
          cases ee : (!(r.toList == text.toList)) with
          | true => simp only [if_true]
          | false =>
            exfalso
            rw [beq_nb] at ee
            have er : r = text := nb_inj (by simpa using ee)
            subst er
            have := (h5 _ (w2 rfl).2).1
            apply e
            rw [← hlen, this]
end Go.TV.F
/- Plain Lean: check sums; one byte turned turns the sum. -/
namespace Go.TV.F
open Go.TV
theorem xorN32 {a b : Nat} (ha : a < 4294967296) (hb : b < 4294967296) : bits .xor .u32 a b = ((a ^^^ b : Nat) : Int) ∧ a ^^^ b < 4294967296 := by
  have ha' : a % 2 ^ IntKind.u32.bits = a := Nat.mod_eq_of_lt ha
  have hb' : b % 2 ^ IntKind.u32.bits = b := Nat.mod_eq_of_lt hb
  have hx : a ^^^ b < 2 ^ 32 := Nat.xor_lt_two_pow ha hb
  refine ⟨?_, hx⟩
  simp only [bits, BitVec.ofInt_natCast, BitVec.toNat_xor, BitVec.toNat_ofNat, ha', hb']
  have hx' : a ^^^ b < 4294967296 := hx
  exact wku32 (x := ((a ^^^ b : Nat) : Int)) (by omega) (by omega)
def bitS (x : Nat) : Nat := if x % 2 = 1 then (x / 2) ^^^ 3558460437 else x / 2
def bitN : Nat → Nat → Nat
  | 0, x => x
  | n + 1, x => bitN n (bitS x)
def byteS (x b : Nat) : Nat := bitN 8 (x ^^^ b)
def crcF (x : Nat) (l : List Nat) : Nat := l.foldl byteS x
def crc (l : List Nat) : Nat := crcF 4294967295 l
theorem bitS_lt {x : Nat} (h : x < 4294967296) : bitS x < 4294967296 := by
  unfold bitS
  split
  · exact (xorN32 (a := x / 2) (b := 3558460437) (by omega) (by decide)).2
  · omega
theorem bitN_lt : ∀ (n : Nat) {x : Nat}, x < 4294967296 → bitN n x < 4294967296
  | 0, _, h => h
  | n + 1, _, h => bitN_lt n (bitS_lt h)
theorem byteS_lt {x b : Nat} (h : x < 4294967296) (hb : b < 256) : byteS x b < 4294967296 := bitN_lt 8 (xorN32 h (by omega)).2
theorem crcF_lt : ∀ (l : List Nat) {x : Nat}, x < 4294967296 → (∀ b ∈ l, b < 256) → crcF x l < 4294967296
  | [], _, h, _ => h
  | b :: l, _, h, hl => crcF_lt l (byteS_lt h (hl b (by simp))) (fun c hc => hl c (by simp [hc]))
theorem bitS_top {x : Nat} (h : x < 4294967296) : (bitS x).testBit 31 = decide (x % 2 = 1) := by
  unfold bitS
  have hz : (x / 2).testBit 31 = false := Nat.testBit_lt_two_pow (by omega)
  split
  · rename_i h1
    rw [Nat.testBit_xor, hz, decide_eq_true h1]
    decide
  · rename_i h1
    rw [hz, decide_eq_false h1]
theorem bitS_inj {x y : Nat} (hx : x < 4294967296) (hy : y < 4294967296) (h : bitS x = bitS y) : x = y := by
  have h1 := bitS_top hx
  rw [h, bitS_top hy, decide_eq_decide] at h1
  unfold bitS at h
  by_cases q : x % 2 = 1
  · rw [if_pos q, if_pos (h1.2 q)] at h
    have := congrArg (fun z => z ^^^ 3558460437) h
    simp only [Nat.xor_assoc, Nat.xor_self, Nat.xor_zero] at this
    have := h1.2 q
    omega
  · have q2 : ¬ y % 2 = 1 := fun r => q (h1.1 r)
    rw [if_neg q, if_neg q2] at h
    omega
theorem bitN_inj : ∀ (n : Nat) {x y : Nat}, x < 4294967296 → y < 4294967296 → bitN n x = bitN n y → x = y
  | 0, _, _, _, _, h => h
  | n + 1, _, _, hx, hy, h => bitS_inj hx hy (bitN_inj n (bitS_lt hx) (bitS_lt hy) h)
theorem xor_inj_left {a b c : Nat} (h : a ^^^ c = b ^^^ c) : a = b := by
  have := congrArg (fun z => z ^^^ c) h
  simpa only [Nat.xor_assoc, Nat.xor_self, Nat.xor_zero] using this
theorem xor_inj_right {a b c : Nat} (h : c ^^^ a = c ^^^ b) : a = b := by
  rw [Nat.xor_comm c, Nat.xor_comm c] at h
  exact xor_inj_left h
theorem crcF_inj : ∀ (l : List Nat) {x y : Nat}, x < 4294967296 → y < 4294967296 → (∀ b ∈ l, b < 256) → crcF x l = crcF y l → x = y
  | [], _, _, _, _, _, h => h
  | b :: l, x, y, hx, hy, hl, h => by
    have hb := hl b (by simp)
    have := crcF_inj l (byteS_lt hx hb) (byteS_lt hy hb) (fun c hc => hl c (by simp [hc])) h
    exact xor_inj_left (bitN_inj 8 (xorN32 hx (by omega)).2 (xorN32 hy (by omega)).2 this)
theorem crcF_app (x : Nat) (l m : List Nat) : crcF x (l ++ m) = crcF (crcF x l) m := by unfold crcF; rw [List.foldl_append]
/-- One byte turned turns the sum. -/
theorem crc_turn {l m : List Nat} {a b : Nat} (hl : ∀ x ∈ l, x < 256) (hm : ∀ x ∈ m, x < 256) (ha : a < 256) (hb : b < 256) (h : crc (l ++ a :: m) = crc (l ++ b :: m)) : a = b := by
  unfold crc at h
  rw [crcF_app, crcF_app] at h
  have h0 := crcF_lt l (x := 4294967295) (by decide) hl
  have := crcF_inj m (byteS_lt h0 ha) (byteS_lt h0 hb) hm h
  exact xor_inj_right (bitN_inj 8 (xorN32 h0 (by omega)).2 (xorN32 h0 (by omega)).2 this)
theorem sumInner_eq {x : Nat} (hx : x < 4294967296) : loopM (fun (s' : Int × Int) => spec_SumMore_l2 s'.1 s'.2) ((x : Int), 0) = some ((bitN 8 x : Nat) : Int) := by
  have key : ∀ (m k x : Nat), k + m = 8 → x < 4294967296 → loopM (fun (s' : Int × Int) => spec_SumMore_l2 s'.1 s'.2) ((x : Int), (k : Int)) = some ((bitN m x : Nat) : Int) := by
    intro m
    induction m with
    | zero =>
      intro k x hk hx
      rw [loopM_eq]
      simp only [spec_SumMore_l2]
      rw [ifF (by simp; omega)]
      rfl
    | succ m ih =>
      intro k x hk hx
      rw [loopM_eq]
      have ed : wk .u32 ((x : Int).tdiv 2) = ((x / 2 : Nat) : Int) := by
        rw [show ((2 : Int)) = ((2 : Nat) : Int) from rfl, tdiv_nat, wku32 (by omega) (by omega)]
      have et : ((x : Int).tmod 2 == 1) = decide (x % 2 = 1) := by
        rw [show ((2 : Int)) = ((2 : Nat) : Int) from rfl, tmod_nat, Bool.eq_iff_iff]
        simp
        omega
      simp only [spec_SumMore_l2]
      rw [ifT (by simp; omega), et, ed, wkS k (by omega)]
      by_cases q : x % 2 = 1
      · rw [ifT (decide_eq_true q), show (3558460437 : Int) = ((3558460437 : Nat) : Int) from rfl, (xorN32 (a := x / 2) (b := 3558460437) (by omega) (by decide)).1]
        refine (ih (k + 1) ((x / 2) ^^^ 3558460437) (by omega) (xorN32 (a := x / 2) (b := 3558460437) (by omega) (by decide)).2).trans ?_
        rw [bitN, bitS, if_pos q]
      · rw [ifF (decide_eq_false q)]
        refine (ih (k + 1) (x / 2) (by omega) (by omega)).trans ?_
        rw [bitN, bitS, if_neg q]
  exact key 8 0 x rfl hx
theorem sumS_eq {s : ByteArray} (hs : s.size ≤ 1000000000) : spec_SumOf s = some ((crc (nb s) : Nat) : Int) := by
  unfold spec_SumOf spec_SumMore
  have hl := nb_len s
  have hbyte : ∀ k, ∀ b ∈ (nb s).take k, b < 256 := fun k b hb => nb_lt (List.mem_of_mem_take hb)
  have := loopM_at (body := fun (s' : Int × Int) => spec_SumMore_l1 s s'.1 s'.2) (r := ((crc (nb s) : Nat) : Int)) (fun k => (((crc ((nb s).take k) : Nat) : Int), (k : Int))) s.size (fun k hk => by
    obtain ⟨b, h1, h2, h3⟩ := sidx_nb hk
    show spec_SumMore_l1 s _ _ = _
    unfold spec_SumMore_l1
    have hc : crc ((nb s).take k) < 4294967296 := crcF_lt _ (by decide) (hbyte k)
    rw [ifT (by simpa using hk), h1, Option.bind_some, wku32 (by omega) (by omega), (xorN32 hc (show b < 4294967296 by omega)).1, sumInner_eq (xorN32 hc (by omega)).2, Option.bind_some]
    unfold spec_SumMore_j2
    rw [wkS k (by omega)]
    have : crc ((nb s).take (k + 1)) = bitN 8 (crc ((nb s).take k) ^^^ b) := by
      rw [List.take_add_one, h2]
      unfold crc
      rw [crcF_app]
      rfl
    rw [this]) (by
    show spec_SumMore_l1 s _ _ = _
    unfold spec_SumMore_l1
    rw [ifF (by simp), ← hl, List.take_length])
  have e : (((crc ((nb s).take 0) : Nat) : Int), ((0 : Nat) : Int)) = ((4294967295 : Int), (0 : Int)) := by simp [crc, crcF]
  rw [e] at this
  rw [this]
  rfl
/-- A sum's four bytes. -/
def four (x : Nat) : List Nat := [x / 16777216 % 256, x / 65536 % 256, x / 256 % 256, x % 256]
theorem four_inj {x y : Nat} (hx : x < 4294967296) (hy : y < 4294967296) (h : four x = four y) : x = y := by
  unfold four at h
  simp only [List.cons.injEq, and_true] at h
  omega
def sum4 (l : List Nat) : List Nat := four (crc l)
theorem fourS_eq {x : Nat} : ∃ u : ByteArray, spec_l02Four (x : Int) = some u ∧ nb u = four x := by
  refine ⟨_, rfl, ?_⟩
  have e : ∀ j : Nat, j ≤ 24 → wk .u8 (shrI .u32 (x : Int) (j : Int)) = ((x / 2 ^ j % 256 : Nat) : Int) := fun j hj => by
    unfold shrI
    simp only [IntKind.bits, Int.toNat_natCast]
    rw [Nat.min_eq_left (by omega), wku8_mod, show ((2 : Int) ^ j) = ((2 ^ j : Nat) : Int) by simp, ← Int.natCast_ediv]
    omega
  have e1 := e 24 (by omega)
  have e2 := e 16 (by omega)
  have e3 := e 8 (by omega)
  have e4 : wk .u8 (x : Int) = ((x % 256 : Nat) : Int) := by rw [wku8_mod]; omega
  have r : [wk .u8 (shrI .u32 (x : Int) 24), wk .u8 (shrI .u32 (x : Int) 16), wk .u8 (shrI .u32 (x : Int) 8), wk .u8 (x : Int)] = (four x).map fun z : Nat => (z : Int) := by
    rw [show (24 : Int) = ((24 : Nat) : Int) from rfl, show (16 : Int) = ((16 : Nat) : Int) from rfl, show (8 : Int) = ((8 : Nat) : Int) from rfl, e1, e2, e3, e4]
    rfl
  rw [r]
  exact nb_mkS (fun z hz => by unfold four at hz; simp at hz; omega)
end Go.TV.F
/- Plain Lean: draws of right graphs; the laws over them. -/
namespace Go.TV.F
open Go.TV

/-! ### Draws -/
theorem and255 (x : Int) : 0 ≤ bits .and .i64 x 255 ∧ bits .and .i64 x 255 ≤ 255 := by
  have h : (BitVec.ofInt 64 x &&& BitVec.ofInt 64 255).toNat ≤ 255 := by
    rw [BitVec.toNat_and, show (BitVec.ofInt 64 255).toNat = 255 from rfl]
    exact Nat.and_le_right
  have e : bits .and .i64 x 255 = wk .i64 ((BitVec.ofInt 64 x &&& BitVec.ofInt 64 255).toNat : Int) := rfl
  rw [e, wk64 (by omega) (by omega)]
  omega
/-- A cursor over the bytes b. -/
def CurOk (b : List Int) (c : T_spec_l01Cur) : Prop := c.b = b ∧ 0 ≤ c.i ∧ c.i ≤ b.length
theorem l01Byte_ok {b : List Int} {c : T_spec_l01Cur} (hb : b.length ≤ 1000000000) (h : CurOk b c) : ∃ x c', spec_l01Byte c = some (x, c') ∧ 0 ≤ x ∧ x ≤ 255 ∧ CurOk b c' := by
  obtain ⟨rfl, h1, h2⟩ := h
  unfold spec_l01Byte
  by_cases q : c.i < (c.b.length : Int)
  · rw [ifT (by simpa using q), geti_in h1 q, Option.bind_some]
    refine ⟨_, _, rfl, (and255 _).1, (and255 _).2, rfl, ?_, ?_⟩
    · show 0 ≤ wk .i64 (c.i + 1)
      rw [wk64 (by omega) (by omega)]
      omega
    · show wk .i64 (c.i + 1) ≤ _
      rw [wk64 (by omega) (by omega)]
      omega
  · rw [ifF (by simpa using q)]
    exact ⟨_, _, rfl, (and255 _).1, (and255 _).2, rfl, h1, h2⟩
theorem tmod_range {x n : Int} (h0 : 0 ≤ x) (hn : 0 < n) : 0 ≤ x.tmod n ∧ x.tmod n < n := by
  rw [Int.tmod_eq_emod_of_nonneg h0]
  exact ⟨Int.emod_nonneg _ (by omega), Int.emod_lt_of_pos _ hn⟩
theorem l01Below_ok {b : List Int} {c : T_spec_l01Cur} {n : Int} (hb : b.length ≤ 1000000000) (h : CurOk b c) (hn : n ≤ 256) : ∃ x c', spec_l01Below c n = some (x, c') ∧ 0 ≤ x ∧ (0 < n → x < n) ∧ (n ≤ 0 → x = 0) ∧ CurOk b c' := by
  unfold spec_l01Below
  by_cases q : n ≤ 0
  · rw [ifT (by simpa using q)]
    exact ⟨0, _, rfl, by omega, by omega, fun _ => rfl, h⟩
  · rw [ifF (by simpa using q), ifT (by simpa using hn)]
    obtain ⟨x, c', h1, h2, h3, h4⟩ := l01Byte_ok hb h
    rw [show (T_spec_l01Cur.mk c.b c.i c.h) = c from rfl, h1, Option.bind_some, chk_in (by omega), Option.bind_some]
    have := tmod_range h2 (n := n) (by omega)
    exact ⟨_, _, rfl, this.1, fun _ => this.2, fun h => absurd h q, h4⟩
theorem l01Once_ok {b : List Int} {c : T_spec_l01Cur} {n : Int} (hb : b.length ≤ 1000000000) (h : CurOk b c) (hn : n ≤ 256) : ∃ x c', spec_l01Once c n = some (x, c') ∧ CurOk b c' := by
  unfold spec_l01Once
  obtain ⟨x, c', h1, _, _, _, h4⟩ := l01Below_ok hb h hn
  rw [show (T_spec_l01Cur.mk c.b c.i c.h) = c from rfl, h1, Option.bind_some]
  exact ⟨_, _, rfl, h4⟩
theorem l01New_ok {b : List Int} (hb : b.length ≤ 1000000000) : ∃ c, spec_l01New b = some c ∧ CurOk b c := by
  unfold spec_l01New
  obtain ⟨h, h1, _⟩ := loopM_total (body := fun (s' : Int × Int) => spec_l01New_l1 b s'.1 s'.2) (fun s => 0 ≤ s.2 ∧ s.2 ≤ b.length) (fun s => (b.length - s.2).toNat) (fun _ => True) (s := ((wk .i64 (73073 + (b.length : Int))), 0)) ⟨by simp, by simp⟩ (fun s hs => by
    obtain ⟨h, i⟩ := s
    have hs : 0 ≤ i ∧ i ≤ (b.length : Int) := hs
    show (∃ s', spec_l01New_l1 b h i = _ ∧ _) ∨ ∃ r, spec_l01New_l1 b h i = _ ∧ _
    unfold spec_l01New_l1
    by_cases q : i < (b.length : Int)
    · by_cases q2 : i < 4000
      · rw [ifT (by simpa using q), Option.bind_some, ifT (by simpa using q2), geti_in hs.1 q, Option.bind_some, wk64 (x := i + 1) (by omega) (by omega)]
        exact .inl ⟨_, rfl, ⟨by show 0 ≤ i + 1; omega, by show i + 1 ≤ _; omega⟩, by show ((b.length : Int) - (i + 1)).toNat < ((b.length : Int) - i).toNat; omega⟩
      · rw [ifT (by simpa using q), Option.bind_some, ifF (by simpa using q2)]
        exact .inr ⟨_, rfl, trivial⟩
    · rw [ifF (by simpa using q), Option.bind_some]
      exact .inr ⟨_, rfl, trivial⟩)
  rw [h1, Option.bind_some]
  exact ⟨_, rfl, rfl, by show (0 : Int) ≤ 0; omega, by show (0 : Int) ≤ _; omega⟩
end Go.TV.F
/- Plain Lean: the law FnIntents. -/
namespace Go.TV.F
open Go.TV
/-- Bytes with their sum, one of them turned, are no bytes with their sum. -/
theorem turned {E E' : List Nat} {i r : Nat} (hE : ∀ x ∈ E, x < 256) (hi : i < (E ++ sum4 E).length) (hr : r < 256) (hne : (E ++ sum4 E)[i]? ≠ some r) (h : E' ++ sum4 E' = (E ++ sum4 E).set i r) : False := by
  have h4 : ∀ l, (sum4 l).length = 4 := fun l => rfl
  have hlen := congrArg List.length h
  rw [List.length_set, List.length_append, List.length_append, h4, h4] at hlen
  have hl : E'.length = E.length := by omega
  by_cases q : i < E.length
  · rw [List.set_append_left _ _ q] at h
    obtain ⟨h1, h2⟩ := List.append_inj h (by simpa using hl)
    subst h1
    rw [List.getElem?_append_left q, List.getElem?_eq_getElem q] at hne
    have e1 : E = E.take i ++ E[i] :: E.drop (i + 1) := by
      rw [← List.drop_eq_getElem_cons q, List.take_append_drop]
    have e2 : E.set i r = E.take i ++ r :: E.drop (i + 1) := by
      rw [List.set_eq_take_append_cons_drop, if_pos q]
    have hc : crc (E.set i r) = crc E := by
      refine four_inj ?_ ?_ h2
      · exact crcF_lt _ (by decide) (fun x hx => by
          rcases List.mem_or_eq_of_mem_set hx with hx | rfl
          · exact hE x hx
          · exact hr)
      · exact crcF_lt _ (by decide) hE
    rw [e2] at hc
    conv at hc => rhs; rw [e1]
    have := crc_turn (fun x hx => hE x (List.mem_of_mem_take hx)) (fun x hx => hE x (List.mem_of_mem_drop hx)) hr (hE _ (List.getElem_mem q)) hc
    exact hne (by rw [this])
  · rw [List.set_append_right _ _ (by omega)] at h
    obtain ⟨h1, h2⟩ := List.append_inj h hl
    subst h1
    have h5 : (sum4 E')[i - E'.length]? = some r := by
      rw [h2, List.getElem?_set_self]
      rw [List.length_append, h4] at hi
      rw [h4]
      omega
    rw [List.getElem?_append_right (by omega)] at hne
    exact hne h5
theorem flat_free {α : Type} {enc : α → List Nat} (hfree : ∀ a b x y, enc a ++ x = enc b ++ y → a = b ∧ x = y) : ∀ (l m : List α) (x y : List Nat), l.length = m.length → (l.map enc).flatten ++ x = (m.map enc).flatten ++ y → l = m ∧ x = y
  | [], [], x, y, _, h => ⟨rfl, by simpa using h⟩
  | [], b :: m, x, y, hl, _ => by simp at hl
  | a :: l, [], x, y, hl, _ => by simp at hl
  | a :: l, b :: m, x, y, hl, h => by
    simp only [List.map_cons, List.flatten_cons, List.append_assoc] at h
    obtain ⟨rfl, h2⟩ := hfree _ _ _ _ h
    obtain ⟨rfl, h3⟩ := flat_free hfree l m x y (by simpa using hl) h2
    exact ⟨rfl, h3⟩
theorem short_free (a b : ByteArray) (x y : List Nat) (h : (encL a.size ++ nb a) ++ x = (encL b.size ++ nb b) ++ y) : a = b ∧ x = y := by
  rw [List.append_assoc, List.append_assoc] at h
  obtain ⟨h1, h2⟩ := encL_free h
  obtain ⟨h3, h4⟩ := List.append_inj h2 (by rw [nb_len, nb_len, h1])
  exact ⟨nb_inj h3, h4⟩
theorem encNm_free {l m : List ByteArray} {x y : List Nat} (h : encNm l ++ x = encNm m ++ y) : l = m ∧ x = y := by
  unfold encNm at h
  rw [List.append_assoc, List.append_assoc] at h
  obtain ⟨h1, h2⟩ := encL_free h
  exact flat_free short_free l m x y h1 h2
/-- The bytes of an intent, without their sum. -/
def intE (l : List ByteArray) : List Nat := nb (ByteArray.mk #[84, 73, 49]) ++ encNm l
theorem readIntent_ok {text : ByteArray} (ht : text.size ≤ 1000000000) {l : List ByteArray} (h : impl_ReadIntent text = some (l, true)) : nb text = intE l ++ sum4 (intE l) := by
  obtain ⟨l', ok, h1, h2, h3, h4⟩ := readIntent_eq ht
  rw [h] at h1
  simp only [Option.some.injEq, Prod.mk.injEq] at h1
  obtain ⟨rfl, rfl⟩ := h1
  unfold spec_ReadIntent at h2
  obtain ⟨x1, _, h2⟩ := Option.bind_eq_some_iff.1 h2
  obtain ⟨x2, _, h2⟩ := Option.bind_eq_some_iff.1 h2
  obtain ⟨x3, _, h2⟩ := Option.bind_eq_some_iff.1 h2
  obtain ⟨x4, _, h2⟩ := Option.bind_eq_some_iff.1 h2
  unfold spec_ReadIntent_j1 at h2
  obtain ⟨x5, h5, h2⟩ := Option.bind_eq_some_iff.1 h2
  simp only [orO, Option.bind_some] at h2
  split at h2
  · simp at h2
  · rename_i hc
    simp only [Option.some.injEq, Prod.mk.injEq, and_true] at h2
    rw [h2, intentText_eq h3 h4] at h5
    have hc' : (x4.2.2.1 || !x5.2) = false ∧ (!(x5.1.toList == text.toList)) = false := by
      cases r1 : (x4.2.2.1 || !x5.2) <;> cases r2 : (!(x5.1.toList == text.toList)) <;> simp [r1, r2] at hc ⊢
    have hr : x5.2 = true := by
      have := hc'.1
      cases r : x5.2 with
      | true => rfl
      | false => simp [r] at this
    have ht' : x5.1 = text := by
      have := hc'.2
      rw [beq_nb] at this
      exact nb_inj (by simpa using this)
    split at h5
    · obtain ⟨x6, h6, h5⟩ := Option.bind_eq_some_iff.1 h5
      simp only [Option.some.injEq] at h5
      subst h5
      simp only at hr ht'
      rw [sealedS_eq] at h6
      split at h6
      · simp only [Option.some.injEq] at h6
        rw [← h6] at hr
        cases hr
      · rename_i hz
        rw [sumS_eq (by omega), Option.bind_some] at h6
        obtain ⟨u, g1, g2⟩ := fourS_eq (x := crc (nb (accS l l.length)))
        rw [g1, Option.bind_some] at h6
        simp only [Option.some.injEq] at h6
        rw [← ht', ← h6]
        simp only
        rw [nb_append, g2, accS_nb]
        rfl
    · simp only [Option.some.injEq] at h5
      rw [← h5] at hr
      cases hr
theorem isNm_size {x : ByteArray} (h : isNm x = true) : x.size ≤ 101 := by
  unfold isNm at h
  rw [Bool.or_eq_true] at h
  rcases h with h | h
  · rw [beq_nb, decide_eq_true_eq] at h
    rw [nb_inj h]
    decide
  · rw [Bool.not_eq_true', ← Bool.not_eq_true, List.all_eq_true] at h
    have : ∃ k ∈ List.range 12, x = fnm k := by
      apply Classical.byContradiction
      intro hn
      apply h
      intro k hk
      rw [beq_nb, Bool.not_eq_true', decide_eq_false_iff_not]
      intro he
      exact hn ⟨k, hk, nb_inj he⟩
    obtain ⟨k, hk, rfl⟩ := this
    exact fnm_size (List.mem_range.1 hk)
theorem okNms_mem {l : List ByteArray} (h : okNms l = true) {x : ByteArray} (hx : x ∈ l) : x.size ≤ 101 := by
  obtain ⟨k, hk, rfl⟩ := List.getElem_of_mem hx
  unfold okNms at h
  have := List.all_eq_true.1 h k (List.mem_range.2 hk)
  unfold nmAt at this
  rw [getD_in hk, Bool.and_eq_true] at this
  exact isNm_size this.1
theorem accS_small {l : List ByteArray} (hl : l.length ≤ 13) (hx : ∀ x ∈ l, x.size ≤ 101) : ∀ k, k ≤ l.length → (accS l k).size ≤ 20 + k * 106
  | 0, _ => by
    have := encS_szN l.length
    show (tiS l).size ≤ _
    unfold tiS
    rw [ByteArray.size_append]
    have : (ByteArray.mk #[84, 73, 49]).size = 3 := rfl
    omega
  | k + 1, h => by
    have ih := accS_small hl hx k (by omega)
    rw [accS_succ (by omega), ByteArray.size_append, ByteArray.size_append]
    have hz := hx _ (List.getElem_mem (show k < l.length by omega))
    have := encS_size (n := (l[k]'(by omega)).size) (by omega)
    omega
/-- Names of an image in bytes. -/
theorem intentTextI_eq {l : List ByteArray} (hl : l.length ≤ 13) (hok : okNms l = true) : ∃ s, impl_IntentText l = some (s, true) ∧ spec_Sealed (accS l l.length) = some (s, true) ∧ s.size ≤ 2000 ∧ nb s = intE l ++ sum4 (intE l) := by
  have hsm := accS_small hl (fun x hx => okNms_mem hok hx)
  have hz := hsm l.length (Nat.le_refl _)
  have hz' : l.length * 106 ≤ 13 * 106 := Nat.mul_le_mul_right _ hl
  unfold impl_IntentText
  rw [intentOk_eq hl, Option.bind_some, hok, ifF (by rfl), varText_eq (by omega), Option.bind_some]
  have e3 : (ByteArray.mk #[84, 73, 49]).size = 3 := rfl
  have h5 := encS_szN l.length
  rw [sapp_in (by omega), Option.bind_some, wstr_in (by rw [ByteArray.size_append]; have : (ByteArray.mk #[]).size = 0 := rfl; omega), Option.bind_some, empty_app]
  have run := loopM_at (body := fun (s' : Int × ByteArray) => impl_IntentText_l1 l s'.1 s'.2) (r := accS l l.length) (fun k => ((k : Int), accS l k)) l.length (fun k hk => by
    show impl_IntentText_l1 l k (accS l k) = _
    have hx := okNms_mem hok (List.getElem_mem hk)
    have hzk := hsm k (by omega)
    have : k * 106 ≤ 13 * 106 := Nat.mul_le_mul_right _ (by omega)
    have := encS_size (n := l[k].size) (by omega)
    unfold impl_IntentText_l1
    rw [ifT (by simpa using hk), geti_nat, List.getElem?_eq_getElem hk, Option.bind_some, shortI_eq (by omega), Option.bind_some, wstr_in (by unfold shS; rw [ByteArray.size_append]; omega), Option.bind_some, wkS k (by omega), accS_succ hk]
    rfl) (by
    show impl_IntentText_l1 l l.length _ = _
    unfold impl_IntentText_l1
    rw [ifF (by simp)])
  have r0 : accS l 0 = ByteArray.mk #[84, 73, 49] ++ encS l.length := rfl
  have ez : ((0 : Nat) : Int) = 0 := rfl
  simp only [r0, ez] at run
  rw [run, Option.bind_some]
  obtain ⟨u, g1, g2, x, g3, g4, g5⟩ := four_eq (s := accS l l.length) (by omega)
  refine ⟨accS l l.length ++ u, ?_, ?_, by rw [ByteArray.size_append]; omega, ?_⟩
  · unfold impl_IntentText_j1 strings_Builder_String impl_Sealed
    simp only [Option.bind_some]
    rw [ifF (decide_eq_false (by omega)), g5, Option.bind_some, sapp_in (by omega)]
    rfl
  · rw [sealedS_eq, if_neg (by omega), g3, Option.bind_some, g4]
    rfl
  · rw [sumS_eq (by omega)] at g3
    simp only [Option.some.injEq] at g3
    obtain ⟨v, k1, k2⟩ := fourS_eq (x := crc (nb (accS l l.length)))
    rw [g3, g4] at k1
    simp only [Option.some.injEq] at k1
    rw [nb_append, k1, k2, accS_nb]
    rfl
/-- They come back. -/
theorem readIntent_back {l : List ByteArray} (hl : l.length ≤ 13) (hok : okNms l = true) {s : ByteArray} (hs : spec_Sealed (accS l l.length) = some (s, true)) (hsz : s.size ≤ 2000) : impl_ReadIntent s = some (l, true) := by
  obtain ⟨t, ok, h1, h2, h3, h4, h5⟩ := unsealed2 (text := s) (by omega)
  obtain ⟨h6, h7⟩ := h5 _ hs
  subst h7
  have hnb : nb t = nb (ByteArray.mk #[84, 73, 49]) ++ (encL l.length ++ (l.map fun x => encL x.size ++ nb x).flatten) := by rw [← h6, accS_nb]; rfl
  have hat : At t 0 (nb (ByteArray.mk #[84, 73, 49]) ++ (encL l.length ++ (l.map fun x => encL x.size ++ nb x).flatten)) := ⟨by omega, [], by rw [hnb]; simp⟩
  have hlen := hat.len
  have hlen2 := congrArg List.length hnb
  rw [nb_len] at hlen2
  obtain ⟨a1, a2⟩ := hat.app
  obtain ⟨a3, a4⟩ := a2.app
  unfold impl_ReadIntent
  rw [h1]
  simp only [Option.bind_some, Bool.not_true]
  have m1 := mark_run h3 a1
  have e0 : ((0 : Nat) : Int) = 0 := rfl
  rw [e0] at m1
  rw [m1]
  simp only [Option.bind_some]
  have e3 : (0 + (nb (ByteArray.mk #[84, 73, 49])).length) = 0 + (ByteArray.mk #[84, 73, 49]).size := by rw [nb_len]
  rw [e3] at a3 a4
  have c1 := count_run h3 (most := 13) hl (by omega) a3
  have e13 : ((13 : Nat) : Int) = 13 := rfl
  rw [e13] at c1
  rw [c1]
  simp only [Option.bind_some]
  have r := items_run (t := t) (I := impl_scanner_short) (fun x => encL x.size ++ nb x) l (fun a x hx hat => short_run h3 (by have := okNms_mem hok hx; omega) hat)
    (f := fun (s' : Int × ByteArray × Int × Bool × (List ByteArray)) => impl_ReadIntent_l1 ((l.length : Int), ⟨t, ((0 + (ByteArray.mk #[84, 73, 49]).size + (encL l.length).length : Nat) : Int), false⟩) s'.1 s'.2.1 s'.2.2.1 s'.2.2.2.1 s'.2.2.2.2)
    (fun k x a a' out hk ho hI hx => by
      simp only [impl_ReadIntent_l1]
      rw [ifT (by simpa using hk), hI]
      simp only [Option.bind_some]
      rw [appn_in (by simp; omega), Option.bind_some, wkS k (by omega)])
    (fun a => by
      simp only [impl_ReadIntent_l1]
      rw [ifF (by simp)]) a4
  rw [r]
  simp only [Option.bind_some, impl_ReadIntent_j1, impl_scanner_done, Bool.not_false, if_true]
  have hend : 0 + (ByteArray.mk #[84, 73, 49]).size + (encL l.length).length + (l.map fun x => encL x.size ++ nb x).flatten.length = t.size := by
    rw [hlen2, List.length_append, List.length_append, nb_len]
    omega
  rw [hend]
  simp only [beq_self_eq_true, Bool.not_true, Bool.false_eq_true, if_false, Option.bind_some, intentOk_eq hl, hok]
theorem sameTexts_refl {l : List ByteArray} (hl : l.length ≤ 1000000) : laws_sameTexts l l = some true := by
  unfold laws_sameTexts
  rw [ifF (by simp), all_loopL (bad := false) l (fun _ => true) (fun k x hx hk => by
    unfold laws_sameTexts_l1
    rw [ifT (by simpa using hk), geti_nat, hx, Option.bind_some, Option.bind_some, ifF (by simp), wkS k (by omega)]
    rfl) (by
    unfold laws_sameTexts_l1
    rw [ifF (by simp)])]
  simp [laws_sameTexts_j1]
/-! ### Drawn names -/
def smX (l : List ByteArray) : Prop := ∀ x ∈ l, x.size ≤ 60000
theorem smX_snoc {l : List ByteArray} {x : ByteArray} (h : smX l) (hx : x.size ≤ 60000) : smX (l ++ [x]) := fun y hy => by
  rcases List.mem_append.1 hy with hy | hy
  · exact h y hy
  · simp at hy
    subst hy
    exact hx
theorem smX_set {l : List ByteArray} {x : ByteArray} {i : Nat} (h : smX l) (hx : x.size ≤ 60000) : smX (l.set i x) := fun y hy => by
  rcases List.mem_or_eq_of_mem_set hy with hy | rfl
  · exact h y hy
  · exact hx
theorem pick_ok {b : List Int} {c : T_spec_l01Cur} {l : List ByteArray} (hb : b.length ≤ 1000000000) (h : CurOk b c) (hl : 0 < l.length) (hl2 : l.length ≤ 256) : ∃ x c', spec_l01Pick c l = some (x, c') ∧ x ∈ l ∧ CurOk b c' := by
  unfold spec_l01Pick
  obtain ⟨x, c', h1, h2, h3, h4, h5⟩ := l01Below_ok (n := (l.length : Int)) hb h (by omega)
  rw [show T_spec_l01Cur.mk c.b c.i c.h = c from rfl, h1, Option.bind_some]
  have := h3 (by omega)
  rw [geti_in h2 (by omega)]
  exact ⟨_, _, rfl, List.getElem_mem _, h5⟩
theorem l18Sort_in {l : List ByteArray} (hl : l.length ≤ 1000) (hs : smX l) : ∃ r, loopM (fun (s' : Int × (List ByteArray)) => spec_l18Names_l2 s'.1 s'.2) (0, l) = some r ∧ r.length = l.length ∧ smX r := by
  refine loopM_inv (f := fun (s' : Int × (List ByteArray)) => spec_l18Names_l2 s'.1 s'.2) (fun s => ∃ k : Nat, s.1 = k ∧ k ≤ l.length ∧ s.2.length = l.length ∧ smX s.2) (fun s => (l.length - s.1).toNat) (fun r => r.length = l.length ∧ smX r) (s := (0, l)) ⟨0, rfl, by omega, rfl, hs⟩ (fun s hs => ?_)
  obtain ⟨k', t⟩ := s
  obtain ⟨k, h1, h2, h3, h4⟩ := hs
  simp only at h1 h3 h4 ⊢
  subst h1
  unfold spec_l18Names_l2
  rw [wkS k (by omega)]
  by_cases q : k + 1 < t.length
  · rw [ifT (decide_eq_true (by omega)), geti_nat, List.getElem?_eq_getElem (by omega), Option.bind_some, geti_nat, List.getElem?_eq_getElem q, Option.bind_some]
    split
    · rw [geti_nat, List.getElem?_eq_getElem (by simp; omega), Option.bind_some]
      exact .inl ⟨_, rfl, ⟨k + 1, rfl, by omega, by simp [h3], smX_set (smX_set h4 (h4 _ (List.getElem_mem _))) (h4 _ (List.getElem_mem _))⟩, by simp only; omega⟩
    · exact .inl ⟨_, rfl, ⟨k + 1, rfl, by omega, h3, h4⟩, by simp only; omega⟩
  · rw [ifF (decide_eq_false (by omega))]
    exact .inr ⟨_, rfl, h3, h4⟩
theorem l18Names_ok {b : List Int} {c : T_spec_l01Cur} (hb : b.length ≤ 1000000000) (h : CurOk b c) : ∃ l c', spec_l18Names c = some (l, c') ∧ l.length ≤ 14 ∧ smX l := by
  unfold spec_l18Names
  obtain ⟨p, h1, h2, h3, h4⟩ := loopM_inv (f := fun (s' : Int × (List Int) × Int × Int × (List ByteArray)) => spec_l18Names_l3 s'.1 s'.2.1 s'.2.2.1 s'.2.2.2.1 s'.2.2.2.2) (fun s => -1 ≤ s.1 ∧ s.1 ≤ 12 ∧ CurOk b ⟨s.2.1, s.2.2.1, s.2.2.2.1⟩ ∧ (s.2.2.2.2.length : Int) ≤ s.1 + 1 ∧ smX s.2.2.2.2) (fun s => (12 - s.1).toNat) (fun r => CurOk b ⟨r.1, r.2.1, r.2.2.1⟩ ∧ r.2.2.2.length ≤ 13 ∧ smX r.2.2.2) (s := (-1, c.b, c.i, c.h, [])) ⟨by simp, by simp, h, by simp, fun x hx => by cases hx⟩ (fun s hs => by
    obtain ⟨i, cb, ci, ch, out⟩ := s
    obtain ⟨g1, g2, g3, g4, g5⟩ := hs
    simp only at g1 g2 g3 g4 g5 ⊢
    unfold spec_l18Names_l3
    by_cases q : i < 12
    · rw [ifT (decide_eq_true q)]
      have tail : ∀ name : ByteArray, name.size ≤ 60000 → (∃ s', spec_l18Names_j4 i cb ci ch out name = some (.inl s') ∧ ((-1 : Int) ≤ s'.1 ∧ s'.1 ≤ 12 ∧ CurOk b ⟨s'.2.1, s'.2.2.1, s'.2.2.2.1⟩ ∧ (s'.2.2.2.2.length : Int) ≤ s'.1 + 1 ∧ smX s'.2.2.2.2) ∧ (12 - s'.1).toNat < (12 - i).toNat) := fun name hn => by
        unfold spec_l18Names_j4
        obtain ⟨x, c', k1, k2⟩ := l01Once_ok (n := 3) hb g3 (by omega)
        rw [k1, Option.bind_some, wk64 (by omega) (by omega)]
        cases x with
        | true =>
          rw [ifT rfl, appn_in (by simp; omega), Option.bind_some]
          exact ⟨_, rfl, ⟨by simp only; omega, by simp only; omega, k2, by simp only [List.length_append, List.length_cons, List.length_nil]; omega, smX_snoc g5 hn⟩, by simp only; omega⟩
        | false =>
          rw [ifF rfl]
          exact ⟨_, rfl, ⟨by simp only; omega, by simp only; omega, k2, by simp only; omega, g5⟩, by simp only; omega⟩
      left
      by_cases q0 : i ≥ 0
      · rw [ifT (decide_eq_true q0)]
        obtain ⟨n, rfl⟩ : ∃ n : Nat, i = n := ⟨i.toNat, by omega⟩
        rw [fnm_S (by omega), Option.bind_some]
        exact tail _ (by have := fnm_size (k := n) (by omega); omega)
      · rw [ifF (decide_eq_false q0)]
        exact tail _ (by decide)
    · rw [ifF (decide_eq_false q)]
      exact .inr ⟨_, rfl, g3, by simp only; omega, g5⟩)
  rw [h1, Option.bind_some]
  obtain ⟨cb, ci, ch, l⟩ := p
  simp only at h2 h3 h4 ⊢
  unfold spec_l18Names_j1
  obtain ⟨r, k1, k2, k3⟩ := loopM_inv (f := fun (s' : Int × (List ByteArray)) => spec_l18Names_l1 s'.1 s'.2) (fun s => ∃ k : Nat, s.1 = k ∧ k ≤ l.length ∧ s.2.length = l.length ∧ smX s.2) (fun s => (l.length - s.1).toNat) (fun r => r.length = l.length ∧ smX r) (s := (0, l)) ⟨0, rfl, by omega, rfl, h4⟩ (fun s hs => by
    obtain ⟨k', t⟩ := s
    obtain ⟨k, e1, e2, e3, e4⟩ := hs
    simp only at e1 e3 e4 ⊢
    subst e1
    unfold spec_l18Names_l1
    by_cases q : k < t.length
    · rw [ifT (decide_eq_true (by omega))]
      obtain ⟨u, f1, f2, f3⟩ := l18Sort_in (l := t) (by omega) e4
      rw [f1, Option.bind_some]
      unfold spec_l18Names_j3
      rw [wkS k (by omega)]
      exact .inl ⟨_, rfl, ⟨k + 1, rfl, by omega, by simp only; omega, f3⟩, by simp only; omega⟩
    · rw [ifF (decide_eq_false (by omega))]
      exact .inr ⟨_, rfl, e3, e4⟩)
  rw [k1, Option.bind_some]
  unfold spec_l18Names_j2
  obtain ⟨x, c', m1, m2, m3, _, m4⟩ := l01Below_ok (n := 24) hb h2 (by omega)
  rw [m1, Option.bind_some]
  split
  · obtain ⟨y, c2, n1, n2, n3⟩ := pick_ok (l := [(ByteArray.mk #[120]), (ByteArray.mk #[119, 49, 50]), (ByteArray.mk #[105, 110, 116, 101, 110, 116]), (ByteArray.mk #[99, 111, 109, 109, 105, 116, 115])]) hb m4 (by simp) (by simp)
    rw [n1, Option.bind_some, appn_in (by simp; omega), Option.bind_some]
    refine ⟨_, _, rfl, by simp; omega, smX_snoc k3 ?_⟩
    simp only [List.mem_cons, List.not_mem_nil, or_false] at n2
    rcases n2 with rfl | rfl | rfl | rfl <;> dsimp only <;> decide
  · split
    · rw [appn_in (by simp; omega), Option.bind_some]
      exact ⟨_, _, rfl, by simp; omega, smX_snoc k3 (by decide)⟩
    · exact ⟨_, _, rfl, by omega, k3⟩
/-- Which names stand for it. -/
theorem drawIntent_ok {code : List Int} (hb : code.length ≤ 1000000000) : ∃ l, spec_DrawIntentText code = some l ∧ l.length ≤ 14 ∧ smX l := by
  unfold spec_DrawIntentText
  obtain ⟨c, h1, h2⟩ := l01New_ok hb
  rw [h1, Option.bind_some, show T_spec_l01Cur.mk c.b c.i c.h = c from rfl]
  obtain ⟨l, c', g1, g2, g3⟩ := l18Names_ok hb h2
  rw [g1, Option.bind_some]
  exact ⟨_, rfl, g2, g3⟩
end Go.TV.F
/- Plain Lean: the law FnIntents, whole. -/
set_option maxRecDepth 100000
namespace Go.TV.F
open Go.TV
theorem l01Below_mid {b : List Int} {c : T_spec_l01Cur} {n : Int} (hb : b.length ≤ 1000000000) (h : CurOk b c) (h1 : 256 < n) (h2 : n ≤ 1000000000) : ∃ x c', spec_l01Below c n = some (x, c') ∧ 0 ≤ x ∧ x < n ∧ CurOk b c' := by
  unfold spec_l01Below
  rw [ifF (by simp; omega), ifF (by simp; omega)]
  obtain ⟨x1, c1, g1, a1, b1, h1⟩ := l01Byte_ok hb h
  rw [show (T_spec_l01Cur.mk c.b c.i c.h) = c from rfl, g1, Option.bind_some]
  obtain ⟨x2, c2, g2, a2, b2, h2⟩ := l01Byte_ok hb h1
  rw [show (T_spec_l01Cur.mk c1.b c1.i c1.h) = c1 from rfl, g2, Option.bind_some]
  obtain ⟨x3, c3, g3, a3, b3, h3⟩ := l01Byte_ok hb h2
  rw [show (T_spec_l01Cur.mk c2.b c2.i c2.h) = c2 from rfl, g3, Option.bind_some]
  obtain ⟨x4, c4, g4, a4, b4, h4⟩ := l01Byte_ok hb h3
  rw [show (T_spec_l01Cur.mk c3.b c3.i c3.h) = c3 from rfl, g4, Option.bind_some, chk_in (by omega)]
  simp only [Option.bind_some]
  rw [wk64 (x := x1 * 16777216) (by omega) (by omega), wk64 (x := x2 * 65536) (by omega) (by omega), wk64 (x := x1 * 16777216 + x2 * 65536) (by omega) (by omega), wk64 (x := x3 * 256) (by omega) (by omega), wk64 (x := x1 * 16777216 + x2 * 65536 + x3 * 256) (by omega) (by omega), wk64 (x := x1 * 16777216 + x2 * 65536 + x3 * 256 + x4) (by omega) (by omega)]
  have := tmod_range (x := x1 * 16777216 + x2 * 65536 + x3 * 256 + x4) (n := n) (by omega) (by omega)
  exact ⟨_, _, rfl, this.1, this.2, h4⟩
theorem drawPlaces_okN {b : List Int} (hb : b.length ≤ 1000000000) : ∃ l, spec_DrawPlaces b = some l ∧ l.length = 12 ∧ ∀ x ∈ l, 0 ≤ x ∧ x ≤ 1000000 := by
  unfold spec_DrawPlaces
  obtain ⟨c, h1, hc⟩ := l01New_ok hb
  rw [h1, Option.bind_some]
  obtain ⟨x0, c0, h2, _, _, hc0⟩ := l01Byte_ok hb hc
  rw [show (T_spec_l01Cur.mk c.b c.i c.h) = c from rfl, h2, Option.bind_some]
  obtain ⟨r, h3, h4⟩ := loopM_inv (f := fun (s' : Int × (List Int) × Int × Int × (List Int)) => spec_DrawPlaces_l1 s'.1 s'.2.1 s'.2.2.1 s'.2.2.2.1 s'.2.2.2.2)
    (fun s => s.1 = s.2.2.2.2.length ∧ s.2.2.2.2.length ≤ 12 ∧ CurOk b ⟨s.2.1, s.2.2.1, s.2.2.2.1⟩ ∧ ∀ x ∈ s.2.2.2.2, 0 ≤ x ∧ x ≤ 1000000) (fun s => 12 - s.2.2.2.2.length)
    (fun r => r.length = 12 ∧ ∀ x ∈ r, 0 ≤ x ∧ x ≤ 1000000) (s := (0, c0.b, c0.i, c0.h, [])) ⟨rfl, by simp, hc0, fun _ h => by cases h⟩ (fun s hs => by
    obtain ⟨v, cb, ci, ch, out⟩ := s
    obtain ⟨hv, hl, hc, hp⟩ := hs
    simp only at hv hl hc hp
    subst hv
    show (∃ s', spec_DrawPlaces_l1 _ cb ci ch out = _ ∧ _) ∨ ∃ r, spec_DrawPlaces_l1 _ cb ci ch out = _ ∧ _
    unfold spec_DrawPlaces_l1
    by_cases q : out.length < 12
    · rw [ifT (by simp; omega)]
      obtain ⟨x, c', g1, g2, g3, g4⟩ := l01Below_mid (n := 10000) hb hc (by omega) (by omega)
      rw [g1, Option.bind_some, appn_in (by simp; omega), Option.bind_some, wk64 (by omega) (by omega)]
      refine .inl ⟨_, rfl, ⟨by simp, by simp; omega, g4, fun y hy => ?_⟩, by simp; omega⟩
      rcases List.mem_append.1 hy with hy | hy
      · exact hp y hy
      · simp at hy
        subst hy
        exact ⟨g2, by omega⟩
    · rw [ifF (by simp; omega)]
      exact .inr ⟨_, rfl, by omega, hp⟩)
  rw [h3]
  exact ⟨r, rfl, h4⟩
theorem isNm_fnm {k : Nat} (hk : k < 12) : isNm (fnm k) = true := by
  unfold isNm
  rw [Bool.or_eq_true]
  right
  rw [Bool.not_eq_true', ← Bool.not_eq_true, List.all_eq_true]
  intro h
  have := h k (List.mem_range.2 hk)
  simp at this
theorem fixed_ok : okNms [(ByteArray.mk #[99, 111, 109, 109, 105, 116, 115]), (ByteArray.mk #[119, 48]), (ByteArray.mk #[119, 49, 48]), (ByteArray.mk #[119, 50])] = true := by
  have e0 : fnm 0 = ByteArray.mk #[119, 48] := Option.some.inj ((fnm_I (k := 0) (by omega)).symm.trans rfl)
  have e1 : fnm 10 = ByteArray.mk #[119, 49, 48] := Option.some.inj ((fnm_I (k := 10) (by omega)).symm.trans rfl)
  have e2 : fnm 2 = ByteArray.mk #[119, 50] := Option.some.inj ((fnm_I (k := 2) (by omega)).symm.trans rfl)
  have h0 := isNm_fnm (k := 0) (by omega)
  have h1 := isNm_fnm (k := 10) (by omega)
  have h2 := isNm_fnm (k := 2) (by omega)
  have hc : isNm (ByteArray.mk #[99, 111, 109, 109, 105, 116, 115]) = true := by
    unfold isNm
    rw [Bool.or_eq_true]
    left
    simp
  rw [e0] at h0
  rw [e1] at h1
  rw [e2] at h2
  unfold okNms nmAt
  rw [List.all_eq_true]
  intro i hi
  have hi' : i < 4 := List.mem_range.1 hi
  have hi4 : i = 0 ∨ i = 1 ∨ i = 2 ∨ i = 3 := by omega
  simp only [toList_eq]
  rcases hi4 with rfl | rfl | rfl | rfl
  · simp only [List.getD_cons_zero, hc, Bool.true_and]
    rfl
  · simp only [List.getD_cons_succ, List.getD_cons_zero, h0, Bool.true_and]
    rfl
  · simp only [List.getD_cons_succ, List.getD_cons_zero, h1, Bool.true_and]
    rfl
  · simp only [List.getD_cons_succ, List.getD_cons_zero, h2, Bool.true_and]
    rfl
theorem bytesL_nb (s : ByteArray) : bytesL s = (nb s).map fun x : Nat => (x : Int) := by
  unfold bytesL nb
  rw [List.map_map]
  rfl
/-- A byte, turned by what is not 0. -/
theorem turn_byte {b v : Nat} (hb : b < 256) (hv : v < 256) (h0 : v ≠ 0) : ∃ r : Nat, bits .xor .u8 (b : Int) (v : Int) = (r : Int) ∧ r < 256 ∧ r ≠ b := by
  have ha' : b % 2 ^ IntKind.u8.bits = b := Nat.mod_eq_of_lt hb
  have hb' : v % 2 ^ IntKind.u8.bits = v := Nat.mod_eq_of_lt hv
  have hx : b ^^^ v < 2 ^ 8 := Nat.xor_lt_two_pow hb hv
  have hx' : b ^^^ v < 256 := hx
  refine ⟨b ^^^ v, ?_, hx', fun h => h0 ?_⟩
  · simp only [bits, BitVec.ofInt_natCast, BitVec.toNat_xor, BitVec.toNat_ofNat, ha', hb']
    exact wku8 (x := ((b ^^^ v : Nat) : Int)) (by omega) (by omega)
  · have : b ^^^ v = b ^^^ 0 := by rw [Nat.xor_zero]; exact h
    exact xor_inj_right this
theorem intE_lt (l : List ByteArray) (hl : l.length ≤ 13) : ∀ x ∈ intE l, x < 256 := fun x hx => by
  unfold intE encNm at hx
  rcases List.mem_append.1 hx with hx | hx
  · exact nb_lt hx
  · rcases List.mem_append.1 hx with hx | hx
    · exact encL_byte _ x hx
    · obtain ⟨m, hm, hx⟩ := List.mem_flatten.1 hx
      obtain ⟨y, _, rfl⟩ := List.mem_map.1 hm
      rcases List.mem_append.1 hx with hx | hx
      · exact encL_byte _ x hx
      · exact nb_lt hx
/-- One byte turned: no intent. -/
theorem intent_turned {l : List ByteArray} (hl : l.length ≤ 13) {s t : ByteArray} (hs : nb s = intE l ++ sum4 (intE l)) {i r : Nat} (hi : i < s.size) (hr : r < 256) (hne : (nb s)[i]? ≠ some r) (ht : nb t = (nb s).set i r) (hsz : s.size ≤ 100000) : ∃ m, impl_ReadIntent t = some (m, false) := by
  have hlt : t.size = s.size := by rw [← nb_len, ht, List.length_set, nb_len]
  obtain ⟨m, ok, h1, _⟩ := readIntent_eq (text := t) (by omega)
  cases ok with
  | false => exact ⟨m, h1⟩
  | true =>
    exfalso
    have h2 := readIntent_ok (by omega) h1
    rw [ht, hs] at h2
    rw [hs] at hne
    exact turned (intE_lt l hl) (by rw [← hs, nb_len]; exact hi) hr hne h2.symm
/-- Cut short: no intent. -/
theorem intent_cut {l : List ByteArray} {s : ByteArray} (hs : nb s = intE l ++ sum4 (intE l)) {m : Nat} (hm : m < s.size) (hsz : s.size ≤ 100000) : ∃ k, impl_ReadIntent (s.extract 0 m) = some (k, false) := by
  have hz : (s.extract 0 m).size = m := by rw [ByteArray.size_extract]; omega
  obtain ⟨k, ok, h1, _⟩ := readIntent_eq (text := s.extract 0 m) (by omega)
  cases ok with
  | false => exact ⟨k, h1⟩
  | true =>
    exfalso
    have h2 := readIntent_ok (by omega) h1
    rw [nb_extract, List.drop_zero, Nat.sub_zero, hs] at h2
    have h4 : ∀ l, (sum4 l).length = 4 := fun l => rfl
    have hl1 := congrArg List.length h2
    have hl2 := congrArg List.length hs
    rw [nb_len, List.length_append, h4] at hl2
    rw [List.length_take, List.length_append, List.length_append, h4, h4, Nat.min_eq_left (by omega)] at hl1
    have h5 := congrArg (List.take (intE k).length) h2
    rw [List.take_take, Nat.min_eq_left (by omega), List.take_append_of_le_length (by omega), List.take_left] at h5
    have h6 := (List.take_append_drop (intE k).length (intE l)).symm
    rw [h5] at h6
    unfold intE at h6
    rw [List.append_assoc] at h6
    have h7 := List.append_cancel_left h6
    have h8 := encNm_free (l := l) (m := k) (x := []) (by rw [List.append_nil]; exact h7)
    have h9 := congrArg List.length h8.2
    rw [List.length_drop, List.length_nil] at h9
    unfold intE at hl1 hl2
    rw [h8.1] at hl2
    omega
theorem fnIntents_j1 {code : List Int} (hb : code.length ≤ 1000000000) {l : List ByteArray} (hl : l.length ≤ 13) (hok : okNms l = true) : laws_FnIntents_j1 code l = some true := by
  obtain ⟨s, h1, h2, h3, h4⟩ := intentTextI_eq hl hok
  unfold laws_FnIntents_j1
  have hsl : (nb s).length = s.size := nb_len s
  have hsz : 4 ≤ s.size := by
    rw [← hsl, h4, List.length_append]
    show 4 ≤ _ + 4
    omega
  rw [h1, Option.bind_some, readIntent_back hl hok h2 h3]
  simp only [Option.bind_some, Bool.not_true, Bool.false_eq_true, if_false]
  rw [sameTexts_refl (by omega)]
  simp only [Option.bind_some, Bool.not_true, Bool.false_eq_true, if_false]
  rw [ifF (by rw [beq_eq_false_iff_ne]; omega)]
  obtain ⟨p, p1, p2, p3⟩ := drawPlaces_okN hb
  rw [p1]
  simp only [Option.bind_some]
  obtain ⟨q0, e0, f0⟩ : ∃ x, geti p 0 = some x ∧ (0 ≤ x ∧ x ≤ 1000000) := ⟨p[0], by rw [show (0 : Int) = ((0 : Nat) : Int) from rfl, geti_nat, List.getElem?_eq_getElem (by omega)], p3 _ (List.getElem_mem _)⟩
  obtain ⟨q1, e1, f1⟩ : ∃ x, geti p 1 = some x ∧ (0 ≤ x ∧ x ≤ 1000000) := ⟨p[1], by rw [show (1 : Int) = ((1 : Nat) : Int) from rfl, geti_nat, List.getElem?_eq_getElem (by omega)], p3 _ (List.getElem_mem _)⟩
  obtain ⟨q2, e2, f2⟩ : ∃ x, geti p 2 = some x ∧ (0 ≤ x ∧ x ≤ 1000000) := ⟨p[2], by rw [show (2 : Int) = ((2 : Nat) : Int) from rfl, geti_nat, List.getElem?_eq_getElem (by omega)], p3 _ (List.getElem_mem _)⟩
  have hbl : ((bytesL s).length : Int) = (s.size : Int) := by rw [bytesL_nb, List.length_map, hsl]
  rw [e0, e1, e2, hbl]
  simp only [Option.bind_some]
  rw [chk_in (by omega), Option.bind_some]
  obtain ⟨i, hi, hi2⟩ : ∃ i : Nat, q0.tmod (s.size : Int) = i ∧ i < s.size := by
    have := tmod_range (x := q0) (n := (s.size : Int)) f0.1 (by omega)
    exact ⟨(q0.tmod (s.size : Int)).toNat, by omega, by omega⟩
  obtain ⟨v, hv, hv1, hv2⟩ : ∃ v : Nat, wk .u8 (wk .i64 (1 + q1.tmod 255)) = v ∧ v < 256 ∧ v ≠ 0 := by
    have := tmod_range (x := q1) (n := 255) f1.1 (by omega)
    rw [wk64 (by omega) (by omega), wku8 (by omega) (by omega)]
    exact ⟨(1 + q1.tmod 255).toNat, by omega, by omega, by omega⟩
  obtain ⟨m, hm, hm2⟩ : ∃ m : Nat, q2.tmod (s.size : Int) = m ∧ m < s.size := by
    have := tmod_range (x := q2) (n := (s.size : Int)) f2.1 (by omega)
    exact ⟨(q2.tmod (s.size : Int)).toNat, by omega, by omega⟩
  rw [hi, hv, hm]
  have hg : geti (bytesL s) (i : Int) = some (((nb s)[i]'(by omega) : Nat) : Int) := by
    rw [geti_nat, bytesL_nb, List.getElem?_map, List.getElem?_eq_getElem (by omega)]
    rfl
  rw [hg, Option.bind_some]
  obtain ⟨r, r1, r2, r3⟩ := turn_byte (b := (nb s)[i]'(by omega)) (v := v) (nb_lt (List.getElem_mem _)) hv1 hv2
  rw [r1, Int.toNat_natCast]
  have hset : (bytesL s).set i (r : Int) = ((nb s).set i r).map fun x : Nat => (x : Int) := by
    rw [bytesL_nb, List.map_set]
  have hnb : nb (mkS ((bytesL s).set i (r : Int))) = (nb s).set i r := by
    rw [hset]
    exact nb_mkS (fun x hx => by
      rcases List.mem_or_eq_of_mem_set hx with hx | rfl
      · exact nb_lt hx
      · exact r2)
  obtain ⟨a, ha⟩ := intent_turned hl h4 hi2 r2 (by rw [List.getElem?_eq_getElem (by omega)]; simp; omega) hnb (by omega)
  rw [ha]
  simp only [Option.bind_some]
  rw [subH_in (by omega) (by omega), Option.bind_some, Int.toNat_natCast]
  obtain ⟨c, hc⟩ := intent_cut h4 hm2 (by omega)
  rw [hc]
  rfl
/-- The law. -/
theorem fnIntents_true {code : List Int} (hb : code.length ≤ 140737488351232) : laws_FnIntents code = some true := by
  unfold laws_FnIntents laws_big
  simp only [Option.bind_some]
  by_cases q : code.length > 1048576
  · rw [ifT (decide_eq_true (by omega))]
  rw [ifF (decide_eq_false (by omega))]
  obtain ⟨l, h1, h2, h3⟩ := drawIntent_ok (code := code) (by omega)
  rw [h1, Option.bind_some]
  by_cases q2 : l.length ≤ 13
  · rw [intentText_eq q2 h3]
    cases q3 : okNms l with
    | false =>
      simp only [Bool.false_eq_true, if_false, Option.bind_some, Bool.not_false, if_true]
      exact fnIntents_j1 (by omega) (by simp) fixed_ok
    | true =>
      obtain ⟨s, _, g2, g3, g4⟩ := intentTextI_eq q2 q3
      simp only [if_true, g2, Option.bind_some, Bool.not_true, Bool.false_eq_true, if_false]
      exact fnIntents_j1 (by omega) q2 q3
  · have : spec_IntentText l = some (ByteArray.mk #[], false) := by
      unfold spec_IntentText
      rw [ifT (decide_eq_true (by omega))]
    rw [this]
    simp only [Option.bind_some, Bool.not_false, if_true]
    exact fnIntents_j1 (by omega) (by simp) fixed_ok
end Go.TV.F
