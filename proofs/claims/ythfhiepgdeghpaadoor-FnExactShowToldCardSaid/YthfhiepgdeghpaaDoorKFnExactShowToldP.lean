/- The plain laws. -/
import Derived.Test.YthfhiepgdeghpaaDoorKFnExactShowToldT4
import Derived.Laws.BitsLemmas
import Derived.Test.YthfhiepgdeghpaaDoorKFnExactShowToldD
set_option linter.unusedVariables false
set_option linter.unusedSimpArgs false
set_option maxHeartbeats 8000000
set_option maxRecDepth 100000
/- Plain Lean: loops and small steps. -/
namespace Go.TV.F
open Go.TV

theorem wk64 {x : Int} (h1 : -9223372036854775808 ≤ x) (h2 : x < 9223372036854775808) : wk .i64 x = x := by
  simp only [wk, IntKind.wrap, IntKind.bits, IntKind.signed, Bool.true_and, decide_eq_true_eq, Nat.reduceSub, Int.reducePow]
  split
  · rename_i h; simp at h; omega
  · rename_i h; simp at h; omega
theorem wku8 {x : Int} (h1 : 0 ≤ x) (h2 : x < 256) : wk .u8 x = x := by
  simp only [wk, IntKind.wrap, IntKind.bits, IntKind.signed, Bool.true_and, Bool.false_and, decide_eq_true_eq, Bool.false_eq_true, if_false, Nat.reduceSub, Int.reducePow]
  first | omega | (split <;> omega)
theorem geti_nat {α : Type} (l : List α) (k : Nat) : geti l (k : Int) = l[k]? := by
  unfold geti
  rw [if_neg (by omega), Int.toNat_natCast]
theorem geti_in {α : Type} {l : List α} {i : Int} (h1 : 0 ≤ i) (h2 : i < l.length) : geti l i = some (l[i.toNat]'(by omega)) := by
  unfold geti
  rw [if_neg (by omega), List.getElem?_eq_getElem]
theorem mkl_in {α : Type} {n : Int} {z : α} (h1 : 0 ≤ n) (h2 : n ≤ 1099511627776) : mkl n n z = some (List.replicate n.toNat z) := by
  unfold mkl
  rw [if_pos ⟨h1, Int.le_refl _, h2⟩]
theorem appn_in {α : Type} {l m : List α} (h : l.length + m.length ≤ 549755813888) : appn l m = some (l ++ m) := by
  unfold appn
  rw [if_pos h]
theorem sapp_in {s t : ByteArray} (h : s.size + t.size ≤ 4611686018427387904) : sapp s t = some (s ++ t) := by
  unfold sapp
  rw [if_pos h]
/-- A loop that goes through known states. -/
theorem loopM_at {σ ρ : Type} {body : σ → Option (σ ⊕ ρ)} {r : ρ} (f : Nat → σ) (n : Nat) (hs : ∀ k, k < n → body (f k) = some (.inl (f (k + 1)))) (he : body (f n) = some (.inr r)) : loopM body (f 0) = some r := by
  have key : ∀ m k, k + m = n → loopM body (f k) = some r := by
    intro m
    induction m with
    | zero => intro k hk; rw [Nat.add_zero] at hk; subst hk; rw [loopM_eq, he]; rfl
    | succ m ih => intro k hk; rw [loopM_eq, hs k (by omega)]; exact ih (k + 1) (by omega)
  exact key n 0 (by omega)
end Go.TV.F
/- Plain Lean: the loops of the laws' own helpers. -/
namespace Go.TV.F
open Go.TV

def sumOf {α : Type} (w : α → Nat) : List α → Nat
  | [] => 0
  | x :: l => w x + sumOf w l
theorem sumOf_mem {α : Type} {w : α → Nat} {l : List α} {x : α} (h : x ∈ l) : w x ≤ sumOf w l := by
  induction l with
  | nil => cases h
  | cons y l ih =>
    rcases List.mem_cons.1 h with rfl | h
    · simp [sumOf]
    · have := ih h
      simp [sumOf]
      omega
/-- A copy. -/
theorem to_loop {α β : Type} {body : Int × List β → Option ((Int × List β) ⊕ List β)} (a : List α) (f : α → β) (z : β) (hs : ∀ (i : Nat) (x : α) (out : List β), a[i]? = some x → out.length = a.length → body ((i : Int), out) = some (.inl (((i + 1 : Nat) : Int), out.set i (f x))))
    (he : ∀ out : List β, out.length = a.length → body ((a.length : Int), out) = some (.inr out)) : loopM body ((0 : Int), List.replicate a.length z) = some (a.map f) := by
  have key : ∀ (l pre : List α), a = pre ++ l → loopM body ((pre.length : Int), pre.map f ++ List.replicate l.length z) = some (a.map f) := by
    intro l
    induction l with
    | nil =>
      intro pre h
      rw [List.append_nil] at h
      subst h
      rw [loopM_eq, he _ (by simp)]
      simp
    | cons x l ih =>
      intro pre h
      rw [loopM_eq, hs pre.length x _ (by rw [h]; simp) (by rw [h]; simp)]
      have := ih (pre ++ [x]) (by rw [h]; simp)
      rw [List.length_append, List.map_append] at this
      have e : (List.map f pre ++ List.replicate (x :: l).length z).set pre.length (f x) = List.map f pre ++ List.map f [x] ++ List.replicate l.length z := by
        rw [List.set_append_right _ _ (by simp)]
        simp [List.replicate_succ]
      rw [e]
      exact this
  exact key a [] rfl
/-- Alike with itself. -/
theorem eq_loop {ρ : Type} {body : Int → Option (Int ⊕ ρ)} {r : ρ} (n : Nat) (hs : ∀ i : Nat, i < n → body (i : Int) = some (.inl ((i + 1 : Nat) : Int))) (he : body (n : Int) = some (.inr r)) : loopM body 0 = some r :=
  loopM_at (fun k => (k : Int)) n hs he
/-- How much there is. -/
theorem sz_loop {α : Type} {body : Int × Int → Option ((Int × Int) ⊕ (Int ⊕ Int))} (w : α → Nat) (a : List α) (left : Int) (h0 : 0 ≤ left)
    (hs : ∀ (s : Int) (i : Nat) (x : α), a[i]? = some x → 0 ≤ s → s ≤ left → body (s, (i : Int)) = if (w x : Int) ≤ s then some (.inl (s - w x, ((i + 1 : Nat) : Int))) else some (.inr (.inl (-1))))
    (he : ∀ (s : Int), body (s, (a.length : Int)) = some (.inr (.inr s))) : loopM body (left, (0 : Int)) = some (if (sumOf w a : Int) ≤ left then .inr (left - sumOf w a) else .inl (-1)) := by
  have key : ∀ (l : List α) (pre : List α) (s : Int), a = pre ++ l → 0 ≤ s → s ≤ left → loopM body (s, (pre.length : Int)) = some (if (sumOf w l : Int) ≤ s then .inr (s - sumOf w l) else .inl (-1)) := by
    intro l
    induction l with
    | nil =>
      intro pre s h h1 h2
      rw [List.append_nil] at h
      rw [loopM_eq, ← h, he]
      simp [sumOf, h1]
    | cons x l ih =>
      intro pre s h h1 h2
      rw [loopM_eq, hs s pre.length x (by rw [h]; simp) h1 h2]
      have e : ((sumOf w (x :: l) : Nat) : Int) = w x + sumOf w l := by simp [sumOf]
      by_cases q : (w x : Int) ≤ s
      · rw [if_pos q]
        have := ih (pre ++ [x]) (s - w x) (by rw [h]; simp) (by omega) (by omega)
        rw [List.length_append] at this
        refine this.trans ?_
        by_cases q2 : (sumOf w l : Int) ≤ s - w x
        · rw [if_pos q2, if_pos (by omega)]
          congr 2
          omega
        · rw [if_neg q2, if_neg (by omega)]
      · rw [if_neg q]
        rw [if_neg (by omega)]
        rfl
  exact key a [] left rfl h0 (Int.le_refl _)
end Go.TV.F
/- Plain Lean: graphs of versions. -/
namespace Go.TV.F
open Go.TV

/-! ### Right graphs -/
/-! ### Sets as bits -/
/-! ### Closures -/
/-! ### The reference's way -/
def mark (b : List Bool) (l : List Int) : List Bool := l.foldl (fun (b : List Bool) (x : Int) => if 0 ≤ x ∧ x < b.length then b.set x.toNat true else b) b
def step (g : List (List Int)) (b : List Bool) (v : Nat) : List Bool := if b.getD v false = true then mark b (g.getD v []) else b
end Go.TV.F
/- Plain Lean: two loops, side by side; the check sums. -/
namespace Go.TV.F
open Go.TV
/-! ### Check sums -/
end Go.TV.F
/- Plain Lean: bytes; lines that are right. -/
namespace Go.TV.F
open Go.TV
theorem wkS (k : Nat) (h : k < 1000000000) : wk .i64 ((k : Int) + 1) = ((k + 1 : Nat) : Int) := by rw [wk64 (by omega) (by omega)]; omega
/-- The bytes of a text, as numbers. -/
def nb (s : ByteArray) : List Nat := s.data.toList.map UInt8.toNat
theorem nb_inj {s t : ByteArray} (h : nb s = nb t) : s = t := by
  have : s.data.toList = t.data.toList := List.map_inj_right (fun a b hab => UInt8.toNat_inj.1 hab) |>.1 h
  exact ByteArray.ext (Array.toList_inj.1 this)
theorem nb_lt {s : ByteArray} {x : Nat} (h : x ∈ nb s) : x < 256 := by
  obtain ⟨b, _, rfl⟩ := List.mem_map.1 h
  exact UInt8.toNat_lt b
theorem nb_mkS {l : List Nat} (h : ∀ x ∈ l, x < 256) : nb (mkS (l.map fun x : Nat => (x : Int))) = l := by
  unfold nb mkS
  simp only [List.map_map]
  conv => rhs; rw [← List.map_id l]
  apply List.map_congr_left
  intro x hx
  have := h x hx
  simp
  omega
end Go.TV.F
/- Plain Lean: numbers of seven bits a byte. -/
namespace Go.TV.F
open Go.TV
end Go.TV.F
/- Plain Lean: numbers and texts read. -/
namespace Go.TV.F
open Go.TV
end Go.TV.F
/- Plain Lean: steps: how large they are, copies, compares. -/
namespace Go.TV.F
open Go.TV
def BB : Nat := 1000000000000000
/-! ### Copies -/
/-! ### Compares -/
end Go.TV.F
/- Plain Lean: BundleText is the reference's. -/
namespace Go.TV.F
open Go.TV
theorem empty_app (s : ByteArray) : ByteArray.mk #[] ++ s = s := by
  apply ByteArray.ext
  rw [ByteArray.data_append]
  simp
theorem app_empty (s : ByteArray) : s ++ ByteArray.mk #[] = s := by
  apply ByteArray.ext
  rw [ByteArray.data_append]
  simp
theorem app_assoc (s t u : ByteArray) : s ++ t ++ u = s ++ (t ++ u) := by
  apply ByteArray.ext
  simp only [ByteArray.data_append, Array.append_assoc]
def cat : List ByteArray → ByteArray
  | [] => ByteArray.mk #[]
  | s :: l => s ++ cat l
theorem cat_app (l m : List ByteArray) : cat (l ++ m) = cat l ++ cat m := by
  induction l with
  | nil => simp [cat, empty_app]
  | cons s l ih => simp [cat, ih, app_assoc]
theorem cat_one (s : ByteArray) : cat [s] = s := by simp [cat, app_empty]
theorem cat_size {l : List ByteArray} {M : Nat} (h : ∀ x ∈ l, x.size ≤ M) : (cat l).size ≤ l.length * M := by
  induction l with
  | nil => exact Nat.zero_le _
  | cons s l ih =>
    have h1 := h s (by simp)
    have h2 := ih (fun x hx => h x (by simp [hx]))
    simp only [cat, ByteArray.size_append, List.length_cons, Nat.add_mul]
    omega
theorem cat_take {α : Type} {l : List α} {f : α → ByteArray} {k : Nat} (hk : k < l.length) : cat ((l.take (k + 1)).map f) = cat ((l.take k).map f) ++ f l[k] := by
  rw [List.take_add_one, List.getElem?_eq_getElem hk, List.map_append, cat_app]
  simp only [Option.toList_some, List.map_cons, List.map_nil, cat_one]
theorem acc_loop {α : Type} {l : List α} {f : α → ByteArray} {M : Nat} {body : Int × ByteArray → Option ((Int × ByteArray) ⊕ ByteArray)} {b0 : ByteArray} (hb : b0.size + l.length * M ≤ 400000000) (hf : ∀ x ∈ l, (f x).size ≤ M)
    (hs : ∀ (i : Nat) (x : α) (b : ByteArray), l[i]? = some x → x ∈ l → b.size + M ≤ 400000000 → body ((i : Int), b) = some (.inl (((i + 1 : Nat) : Int), b ++ f x)))
    (he : ∀ b : ByteArray, body ((l.length : Int), b) = some (.inr b)) : loopM body (0, b0) = some (b0 ++ cat (l.map f)) := by
  have h0 : (0, b0) = ((((0 : Nat) : Int), b0 ++ cat ((l.take 0).map f)) : Int × ByteArray) := by simp [cat, app_empty]
  rw [h0]
  refine loopM_at (fun k => ((k : Int), b0 ++ cat ((l.take k).map f))) l.length (fun k hk => ?_) (by rw [he, List.take_length])
  have hsz : (cat ((l.take k).map f)).size ≤ k * M := by
    have := cat_size (l := (l.take k).map f) (M := M) (fun x hx => by
      obtain ⟨y, hy, rfl⟩ := List.mem_map.1 hx
      exact hf y (List.mem_of_mem_take hy))
    rw [List.length_map, List.length_take, Nat.min_eq_left (by omega)] at this
    exact this
  have hkM : (k + 1) * M ≤ l.length * M := Nat.mul_le_mul_right _ hk
  rw [Nat.add_mul, Nat.one_mul] at hkM
  rw [hs k l[k] _ (List.getElem?_eq_getElem hk) (List.getElem_mem hk) (by rw [ByteArray.size_append]; omega), cat_take hk, app_assoc]
/-! ### Numbers and texts in bytes -/
theorem wstr_in {b x : ByteArray} (h : b.size + x.size ≤ 549755813888) : strings_Builder_WriteString b x = some (b ++ x) := by
  unfold strings_Builder_WriteString
  rw [if_pos h]
/-! ### What can be told -/
end Go.TV.F
/- Plain Lean: loops by what stays true, and small lemmas. -/
namespace Go.TV.F
open Go.TV
def LB : Nat := 1000000000000000
theorem tmodK (a b : Nat) : ((a : Int)).tmod (b : Int) = ((a % b : Nat) : Int) := by
  rw [Int.tmod_eq_emod_of_nonneg (by omega)]
  rfl
theorem tdivK (a b : Nat) : ((a : Int)).tdiv (b : Int) = ((a / b : Nat) : Int) := by
  rw [Int.tdiv_eq_ediv_of_nonneg (by omega)]
  rfl
end Go.TV.F
/- Plain Lean: the functions over graphs, and what they come to. -/
namespace Go.TV.F
open Go.TV

theorem l01In_eq (n a b : Int) : spec_l01In n a b = some (decide (a ≤ n) && decide (n ≤ b)) := by
  unfold spec_l01In
  by_cases h : a ≤ n <;> simp [h]
/-- Sets, as the program holds them. -/
abbrev us (c : List Nat) : List Int := c.map fun (s : Nat) => (s : Int)
/-! ### The reference -/
end Go.TV.F
/- Plain Lean: loops that look at all of a list; small steps. -/
namespace Go.TV.F
open Go.TV
theorem getD_some {α : Type} {l : List α} {i : Nat} {d x : α} (h : l[i]? = some x) : l.getD i d = x := by
  rw [List.getD_eq_getElem?_getD, h]
  rfl
end Go.TV.F
/- Plain Lean: decimal numerals. -/
namespace Go.TV.F
open Go.TV
noncomputable def dec (n : Int) : ByteArray := ⟨(Go.Lib.itoa n).toArray⟩
theorem decimalI_eq {n : Int} (h0 : -9223372036854775808 ≤ n) (h1 : n ≤ 9223372036854775807) : impl_Decimal n = some (dec n) := by
  unfold impl_Decimal strconv_Itoa
  rw [if_pos ⟨h0, h1⟩]
  rfl
def digs (u : Nat) : List UInt8 := if u = 0 then [] else Go.Lib.decDigits u
theorem digs_step {u : Nat} (h : u ≠ 0) : digs u = digs (u / 10) ++ [UInt8.ofNat (48 + u % 10)] := by
  unfold digs
  rw [if_neg h, Go.Lib.decDigits]
  by_cases q : u < 10
  · rw [dif_pos q, if_pos (by omega), Nat.mod_eq_of_lt q]
    rfl
  · rw [dif_neg q, if_neg (by omega)]
theorem mk_app (a b : List UInt8) : (ByteArray.mk (a ++ b).toArray) = ByteArray.mk a.toArray ++ ByteArray.mk b.toArray := by
  apply ByteArray.ext
  rw [ByteArray.data_append]
  simp
theorem dec_loop : ∀ (k u : Nat), u < 10 ^ k → k ≤ 30 → ∀ (neg : Bool) (s : ByteArray), s.size + k ≤ 1000 → u ≤ 9223372036854775808 → (neg = false → u ≤ 9223372036854775807) →
    loopM (fun (s' : Int × ByteArray) => spec_Decimal_l1 s'.1 s'.2) ((if neg = true then -(u : Int) else (u : Int)), s) = some (ByteArray.mk (digs u).toArray ++ s) := by
  intro k
  induction k with
  | zero =>
    intro u hu _ neg s _ _ _
    have : u = 0 := by simpa using hu
    subst this
    have e : (if neg = true then -((0 : Nat) : Int) else ((0 : Nat) : Int)) = 0 := by cases neg <;> rfl
    rw [e, loopM_eq]
    simp only [spec_Decimal_l1]
    rw [ifF (by rfl)]
    show some s = some (ByteArray.mk #[] ++ s)
    rw [empty_app]
  | succ k ih =>
    intro u hu hk neg s hs h1 h2
    by_cases hu0 : u = 0
    · subst hu0
      exact ih 0 (Nat.pow_pos (by decide)) (by omega) neg s (by omega) (by omega) (fun _ => by omega)
    · have hu10 : u / 10 < 10 ^ k := by
        rw [Nat.pow_succ] at hu
        omega
      have hfig : ∀ d : Nat, d < 10 → spec_l01Figure (d : Int) = some ((48 + d : Nat) : Int) := fun d hd => by
        unfold spec_l01Figure
        rw [ifT (decide_eq_true (by omega)), wk64 (by omega) (by omega), wku8 (by omega) (by omega)]
        rfl
      have hmk : mkS [((48 + u % 10 : Nat) : Int)] = ByteArray.mk [UInt8.ofNat (48 + u % 10)].toArray := by
        unfold mkS
        rfl
      have hj : ∀ n : Int, wk .i64 (n.tdiv 10) = (if neg = true then -((u / 10 : Nat) : Int) else ((u / 10 : Nat) : Int)) → spec_Decimal_j2 n s ((u % 10 : Nat) : Int) = some (.inl ((if neg = true then -((u / 10 : Nat) : Int) else ((u / 10 : Nat) : Int)), ByteArray.mk [UInt8.ofNat (48 + u % 10)].toArray ++ s)) := fun n hn => by
        unfold spec_Decimal_j2
        have hsz : (ByteArray.mk [UInt8.ofNat (48 + u % 10)].toArray).size = 1 := rfl
        rw [hfig _ (by omega), Option.bind_some, hmk, sapp_in (by omega), Option.bind_some, hn]
      have hb : spec_Decimal_l1 (if neg = true then -(u : Int) else (u : Int)) s = some (.inl ((if neg = true then -((u / 10 : Nat) : Int) else ((u / 10 : Nat) : Int)), ByteArray.mk [UInt8.ofNat (48 + u % 10)].toArray ++ s)) := by
        unfold spec_Decimal_l1
        cases neg with
        | true =>
          simp only [if_true]
          have e1 : (-(u : Int)).tmod 10 = -((u % 10 : Nat) : Int) := by rw [Int.neg_tmod, show (10 : Int) = ((10 : Nat) : Int) from rfl, tmodK]
          have e2 : (-(u : Int)).tdiv 10 = -((u / 10 : Nat) : Int) := by rw [Int.neg_tdiv, show (10 : Int) = ((10 : Nat) : Int) from rfl, tdivK]
          rw [ifT (by simp; omega), e1]
          have hj' := hj (-(u : Int)) (by rw [e2, wk64 (by omega) (by omega)]; rfl)
          simp only [if_true] at hj'
          by_cases q : u % 10 = 0
          · rw [ifF (decide_eq_false (by omega)), show (-((u % 10 : Nat) : Int)) = ((u % 10 : Nat) : Int) by omega]
            exact hj'
          · rw [ifT (decide_eq_true (by omega)), wk64 (by omega) (by omega), show (0 - -((u % 10 : Nat) : Int)) = ((u % 10 : Nat) : Int) by omega]
            exact hj'
        | false =>
          simp only [Bool.false_eq_true, if_false]
          have e1 : ((u : Int)).tmod 10 = ((u % 10 : Nat) : Int) := by rw [show (10 : Int) = ((10 : Nat) : Int) from rfl, tmodK]
          have e2 : ((u : Int)).tdiv 10 = ((u / 10 : Nat) : Int) := by rw [show (10 : Int) = ((10 : Nat) : Int) from rfl, tdivK]
          have h2' := h2 rfl
          rw [ifT (by simp; omega), e1, ifF (decide_eq_false (by omega))]
          have hj' := hj (u : Int) (by rw [e2, wk64 (by omega) (by omega)]; rfl)
          simp only [Bool.false_eq_true, if_false] at hj'
          exact hj'
      rw [loopM_eq]
      simp only [hb, Option.bind_some]
      have hsz : (ByteArray.mk [UInt8.ofNat (48 + u % 10)].toArray).size = 1 := rfl
      rw [ih (u / 10) hu10 (by omega) neg _ (by rw [ByteArray.size_append]; omega) (by omega) (fun h => by have := h2 h; omega), digs_step hu0, mk_app, app_assoc]
theorem decimalS_eq {n : Int} (h0 : -9223372036854775808 ≤ n) (h1 : n ≤ 9223372036854775807) : spec_Decimal n = some (dec n) := by
  unfold spec_Decimal dec Go.Lib.itoa
  by_cases q : n = 0
  · subst q
    rw [ifT (by rfl), if_neg (by omega)]
    have : Go.Lib.decDigits (0 : Int).toNat = [48] := by
      show Go.Lib.decDigits 0 = [48]
      rw [Go.Lib.decDigits]
      rfl
    rw [this]
  · rw [ifF (by simpa using q)]
    by_cases q2 : n < 0
    · have := dec_loop 20 n.natAbs (by omega) (by omega) true (ByteArray.mk #[]) (by show 0 + 20 ≤ 1000; omega) (by omega) (fun h => by cases h)
      rw [ifT rfl, show (-(n.natAbs : Int)) = n by omega] at this
      rw [this, Option.bind_some, app_empty, if_pos q2]
      unfold spec_Decimal_j1
      have hd : digs n.natAbs = Go.Lib.decDigits n.natAbs := by unfold digs; rw [if_neg (by omega)]
      have hlen : ∀ (k u : Nat), u < 10 ^ k → (digs u).length ≤ k := by
        intro k
        induction k with
        | zero => intro u hu; have : u = 0 := by simpa using hu
                  subst this; simp [digs]
        | succ k ih =>
          intro u hu
          by_cases h0 : u = 0
          · subst h0; simp [digs]
          · rw [digs_step h0, List.length_append]
            have := ih (u / 10) (by rw [Nat.pow_succ] at hu; omega)
            simp
            omega
      have hl := hlen 20 n.natAbs (by omega)
      have hs1 : (ByteArray.mk (digs n.natAbs).toArray).size = (digs n.natAbs).length := by show (digs n.natAbs).toArray.size = _; simp
      have hs2 : (ByteArray.mk #[45]).size = 1 := rfl
      rw [ifT (decide_eq_true q2), sapp_in (by omega), Option.bind_some, hd]
      congr 1
    · have := dec_loop 20 n.toNat (by omega) (by omega) false (ByteArray.mk #[]) (by show 0 + 20 ≤ 1000; omega) (by omega) (fun h => by omega)
      rw [ifF rfl, show ((n.toNat : Nat) : Int) = n by omega] at this
      rw [this, Option.bind_some, app_empty, if_neg q2]
      unfold spec_Decimal_j1
      rw [ifF (decide_eq_false q2)]
      have hd : digs n.toNat = Go.Lib.decDigits n.toNat := by unfold digs; rw [if_neg (by omega)]
      rw [hd]
theorem digs_len : ∀ (k u : Nat), u < 10 ^ k → (digs u).length ≤ k := by
  intro k
  induction k with
  | zero =>
    intro u hu
    have : u = 0 := by simpa using hu
    subst this
    simp [digs]
  | succ k ih =>
    intro u hu
    by_cases h0 : u = 0
    · subst h0
      simp [digs]
    · rw [digs_step h0, List.length_append]
      have := ih (u / 10) (by rw [Nat.pow_succ] at hu; omega)
      simp
      omega
theorem dec_size {n : Int} (h0 : -9223372036854775808 ≤ n) (h1 : n ≤ 9223372036854775807) : (dec n).size ≤ 21 := by
  have key : ∀ u : Nat, u ≤ 9223372036854775808 → (Go.Lib.decDigits u).length ≤ 20 := fun u hu => by
    by_cases h : u = 0
    · subst h
      rw [Go.Lib.decDigits]
      simp
    · have := digs_len 20 u (by omega)
      unfold digs at this
      rw [if_neg h] at this
      exact this
  show (Go.Lib.itoa n).toArray.size ≤ 21
  unfold Go.Lib.itoa
  split
  · have := key n.natAbs (by omega)
    simp
    omega
  · have := key n.toNat (by omega)
    simp
    omega
end Go.TV.F
/- Plain Lean: how large things are, copies, compares, marks. Written by a program. -/
namespace Go.TV.F
open Go.TV
def w_StringS (a : List ByteArray) : Nat := a.length + sumOf ByteArray.size a
def ok_StringS (a : List ByteArray) : Prop := a.length ≤ LB ∧ ∀ x ∈ a, x.size ≤ LB
def sm_StringS (a : List ByteArray) : Prop := a.length * 16 ≤ 140737488351232 ∧ ∀ x ∈ a, x.size ≤ 140737488351232
theorem ok_of_StringS {a : List ByteArray} (h : sm_StringS a) : ok_StringS a := ⟨by have := h.1; unfold LB; omega, fun x hx => Nat.le_trans (h.2 x hx) (by decide)⟩
def c_StringS (a : List ByteArray) : List ByteArray := a
theorem sz_StringS {a : List ByteArray} {s : Int} (h : ok_StringS a) (h0 : 0 ≤ s) (h1 : s ≤ 1048576) : laws_szStringS a s = some (if (w_StringS a : Int) ≤ s then s - w_StringS a else -1) := by
  have hl : a.length ≤ 1000000000000000 := h.1
  unfold laws_szStringS w_StringS
  rw [wk64 (x := s - (a.length : Int)) (by omega) (by omega)]
  by_cases q : s - (a.length : Int) < 0
  · rw [ifT (by simpa using q), if_neg (by omega)]
  · rw [ifF (by simpa using q)]
    have := sz_loop (body := fun (s' : Int × Int) => laws_szStringS_l1 a s'.1 s'.2) ByteArray.size a (s - a.length) (by omega) (fun t i x hi h2 h3 => by
      have hlt := (List.getElem?_eq_some_iff.1 hi).1
      have hxs := h.2 x (List.mem_of_getElem? hi)
      show laws_szStringS_l1 a t i = _
      unfold laws_szStringS_l1
      have hxs : x.size ≤ 1000000000000000 := hxs
      rw [ifT (by simpa using hlt), geti_nat, hi, Option.bind_some, wk64 (x := t - (x.size : Int)) (by omega) (by omega)]
      by_cases q2 : (x.size : Int) ≤ t
      · rw [ifF (by simp; omega), if_pos q2, wk64 (by omega) (by omega)]
        rfl
      · rw [ifT (by simp; omega), if_neg q2]) (fun t => by
      show laws_szStringS_l1 a t a.length = _
      unfold laws_szStringS_l1
      rw [ifF (by simp)])
    rw [this, Option.bind_some]
    by_cases q2 : (sumOf ByteArray.size a : Int) ≤ s - a.length
    · rw [if_pos q2, if_pos (by omega)]
      simp only [laws_szStringS_j1]
      congr 1
      omega
    · rw [if_neg q2, if_neg (by omega)]
theorem to_StringS {a : List ByteArray} (h : w_StringS a ≤ 1048576) : laws_toStringS a = some (c_StringS a) := by
  have hl : a.length ≤ 1048576 := by unfold w_StringS at h; omega
  unfold laws_toStringS
  rw [mkl_in (by omega) (by omega), Option.bind_some, Int.toNat_natCast]
  have := to_loop (body := fun (s' : Int × (List ByteArray)) => laws_toStringS_l1 a s'.1 s'.2) a (fun x => x) (ByteArray.mk #[]) (fun i x out hi hl2 => by
    have hlt := (List.getElem?_eq_some_iff.1 hi).1
    show laws_toStringS_l1 a i out = _
    unfold laws_toStringS_l1
    rw [ifT (by simpa using hlt), geti_nat, hi, Option.bind_some]
    rw [geti_nat, List.getElem?_eq_getElem (by omega), Option.bind_some, wk64 (by omega) (by omega), Int.toNat_natCast]
    rfl) (fun out hl2 => by
    show laws_toStringS_l1 a a.length out = _
    unfold laws_toStringS_l1
    rw [ifF (by simp)])
  rw [this]
  show some (a.map (fun x => x)) = some a
  rw [List.map_id']
def w_Told (a : T_laws_Told) : Nat := w_StringS a.Lines
def ok_Told (a : T_laws_Told) : Prop := ok_StringS a.Lines
def sm_Told (a : T_laws_Told) : Prop := (Lit.int .i64 a.Kind).wf = true ∧ (Lit.int .i64 a.Code).wf = true ∧ (Lit.int .i64 a.Number).wf = true ∧ sm_StringS a.Lines
theorem ok_of_Told {a : T_laws_Told} (h : sm_Told a) : ok_Told a := ok_of_StringS h.2.2.2
def c_Told (a : T_laws_Told) : T_impl_Told := ⟨a.Kind, a.Code, a.Number, a.Lines⟩
theorem sz_Told {a : T_laws_Told} {s : Int} (h : ok_Told a) (h0 : 0 ≤ s) (h1 : s ≤ 1048576) : laws_szTold a s = some (if (w_Told a : Int) ≤ s then s - w_Told a else -1) := by
  unfold ok_Told at h
  have o0 := h
  unfold laws_szTold w_Told
  rw [sz_StringS o0 (by omega) (by omega), Option.bind_some]
  by_cases q0 : (w_StringS a.Lines : Int) ≤ s
  case neg => rw [if_neg q0, ifT (by simp)]
  rw [if_pos q0, ifF (by simp; omega)]
theorem to_Told {a : T_laws_Told} (h : w_Told a ≤ 1048576) : laws_toTold a = some (c_Told a) := by
  unfold w_Told at h
  unfold laws_toTold
  rw [to_StringS (by omega), Option.bind_some]
  rfl
def z_StringS (a : List ByteArray) : Nat := a.length
theorem eq_StringS {a : List ByteArray} (h : z_StringS a ≤ 1000000000) : laws_eqStringS a a = some true := by
  have hl : a.length ≤ 1000000000 := by unfold z_StringS at h; omega
  unfold laws_eqStringS
  rw [ifF (by simp)]
  have := eq_loop (body := fun s' => laws_eqStringS_l1 a a s') (r := .inr ()) a.length (fun i hi => by
    unfold laws_eqStringS_l1
    rw [ifT (by simpa using hi), geti_nat, List.getElem?_eq_getElem hi, Option.bind_some, Option.bind_some]
    rw [ifF (by simp), wk64 (by omega) (by omega)]
    rfl) (by
    unfold laws_eqStringS_l1
    rw [ifF (by simp)])
  rw [this]
  rfl
def z_Told (a : T_impl_Told) : Nat := z_StringS a.Lines
theorem eq_Told {a : T_impl_Told} (h : z_Told a ≤ 1000000000) : laws_eqTold a a = some true := by
  unfold z_Told at h
  unfold laws_eqTold
  simp only [eq_StringS (a := a.Lines) (by omega), Option.bind_some, Bool.not_true, Bool.false_eq_true, if_false, bne_self_eq_false, BEq.rfl]
theorem zc_StringS (a : List ByteArray) : z_StringS (c_StringS a) ≤ w_StringS a := by
  unfold z_StringS c_StringS w_StringS
  omega
theorem zc_Told (a : T_laws_Told) : z_Told (c_Told a) ≤ w_Told a := by
  have : z_StringS (a.Lines) ≤ w_StringS a.Lines := zc_StringS a.Lines
  show z_StringS (a.Lines) ≤ _
  unfold w_Told
  omega
end Go.TV.F
/- Plain Lean: the law FnExactShowTold. -/
namespace Go.TV.F
open Go.TV
def kindB (k : Int) : ByteArray :=
  if k = 1 then ByteArray.mk #[99, 111, 109, 109, 105, 116] else if k = 2 then ByteArray.mk #[116, 101, 120, 116] else if k = 3 then ByteArray.mk #[110, 111, 116, 101, 115] else if k = 4 then ByteArray.mk #[109, 101, 114, 103, 101] else if k = 5 then ByteArray.mk #[110, 97, 109, 101, 115] else ByteArray.mk #[110, 111, 110, 101]
theorem kindI_eq (k : Int) : impl_kindName k = some (kindB k) := by
  unfold impl_kindName kindB
  simp only [beq_iff_eq]
  split
  · rfl
  · split
    · rfl
    · split
      · rfl
      · split
        · rfl
        · split <;> rfl
theorem kindB_size (k : Int) : (kindB k).size ≤ 6 := by
  unfold kindB
  split
  · decide
  · split
    · decide
    · split
      · decide
      · split
        · decide
        · split <;> decide
def lnT (x : ByteArray) : ByteArray := ByteArray.mk #[124, 32] ++ x ++ ByteArray.mk #[10]
noncomputable def headT (t : T_impl_Told) : ByteArray := kindB t.Kind ++ ByteArray.mk #[32] ++ dec t.Code ++ ByteArray.mk #[32] ++ dec t.Number ++ ByteArray.mk #[10]
noncomputable def toldB (t : T_impl_Told) : ByteArray := headT t ++ cat ((t.Lines.take 300).map lnT)
def okT (t : T_impl_Told) : Prop := (-9223372036854775808 ≤ t.Code ∧ t.Code ≤ 9223372036854775807) ∧ (-9223372036854775808 ≤ t.Number ∧ t.Number ≤ 9223372036854775807) ∧ t.Lines.length ≤ 2000000 ∧ ∀ x ∈ t.Lines, x.size ≤ 1100000
theorem z1 : (ByteArray.mk #[32]).size = 1 := rfl
theorem z2 : (ByteArray.mk #[10]).size = 1 := rfl
theorem z3 : (ByteArray.mk #[124, 32]).size = 2 := rfl
theorem z4 : (ByteArray.mk #[]).size = 0 := rfl
theorem headT_size {t : T_impl_Told} (h : okT t) : (headT t).size ≤ 60 := by
  have h1 := kindB_size t.Kind
  have h2 := dec_size h.1.1 h.1.2
  have h3 := dec_size h.2.1.1 h.2.1.2
  have := z1; have := z2
  unfold headT
  simp only [ByteArray.size_append]
  omega
theorem toldI_eq {t : T_impl_Told} (h : okT t) : impl_ShowTold t = some (toldB t) := by
  have h1 := kindB_size t.Kind
  have h2 := dec_size h.1.1 h.1.2
  have h3 := dec_size h.2.1.1 h.2.1.2
  have e1 := z1; have e2 := z2; have e3 := z3; have e4 := z4
  have hh := headT_size h
  unfold impl_ShowTold
  rw [kindI_eq, Option.bind_some, sapp_in (by omega), Option.bind_some, decimalI_eq h.1.1 h.1.2, Option.bind_some, sapp_in (by simp only [ByteArray.size_append]; omega), Option.bind_some, sapp_in (by simp only [ByteArray.size_append]; omega), Option.bind_some, decimalI_eq h.2.1.1 h.2.1.2, Option.bind_some, sapp_in (by simp only [ByteArray.size_append]; omega), Option.bind_some, sapp_in (by simp only [ByteArray.size_append]; omega), Option.bind_some, wstr_in (by simp only [ByteArray.size_append]; omega), Option.bind_some, empty_app]
  have hcut : cutH t.Lines (if 300 < (t.Lines.length : Int) then 300 else (t.Lines.length : Int)) = some (t.Lines.take 300) := by
    have e : (if 300 < (t.Lines.length : Int) then 300 else (t.Lines.length : Int)) = ((min 300 t.Lines.length : Nat) : Int) := by split <;> omega
    rw [e]
    unfold cutH
    rw [if_neg (by omega), if_pos (by omega), Int.toNat_natCast, ← List.take_take, List.take_length]
  rw [hcut, Option.bind_some]
  have hl : (t.Lines.take 300).length ≤ 300 := by simp; omega
  have := acc_loop (body := fun (s' : Int × ByteArray) => impl_ShowTold_l1 (t.Lines.take 300) s'.1 s'.2) (l := t.Lines.take 300) (f := lnT) (M := 1100003) (b0 := headT t) (by
    have := Nat.mul_le_mul_right 1100003 hl
    omega) (fun x hx => by
    have := h.2.2.2 x (List.mem_of_mem_take hx)
    unfold lnT
    simp only [ByteArray.size_append]
    omega) (fun i x b hi hx hb => by
    have hlt := (List.getElem?_eq_some_iff.1 hi).1
    have hz := h.2.2.2 x (List.mem_of_mem_take hx)
    show impl_ShowTold_l1 _ i b = _
    unfold impl_ShowTold_l1
    rw [ifT (decide_eq_true (by omega)), geti_nat, hi, Option.bind_some, sapp_in (by omega), Option.bind_some, sapp_in (by rw [ByteArray.size_append]; omega), Option.bind_some, wstr_in (by simp only [ByteArray.size_append]; omega), Option.bind_some, wkS i (by omega)]
    rfl) (fun b => by
    show impl_ShowTold_l1 _ (t.Lines.take 300).length b = _
    unfold impl_ShowTold_l1
    rw [ifF (by simp)])
  have ed : kindB t.Kind ++ ByteArray.mk #[32] ++ dec t.Code ++ ByteArray.mk #[32] ++ dec t.Number ++ ByteArray.mk #[10] = headT t := rfl
  rw [ed, this]
  rfl
theorem bytesLT_app (s t : ByteArray) : bytesL (s ++ t) = bytesL s ++ bytesL t := by
  unfold bytesL
  rw [ByteArray.data_append]
  simp
theorem mkS_bytesLT (s : ByteArray) : mkS (bytesL s) = s := by
  apply nb_inj
  have : bytesL s = (nb s).map fun x : Nat => (x : Int) := by
    unfold bytesL nb
    rw [List.map_map]
    rfl
  rw [this]
  exact nb_mkS (fun x hx => nb_lt hx)
theorem toldS_j1 {t : T_impl_Told} (h : okT t) : spec_ShowTold_j1 t (kindB t.Kind) = some (toldB t) := by
  have h1 := kindB_size t.Kind
  have h2 := dec_size h.1.1 h.1.2
  have h3 := dec_size h.2.1.1 h.2.1.2
  have e1 := z1; have e2 := z2; have e3 := z3; have e4 := z4
  have hh := headT_size h
  unfold spec_ShowTold_j1
  rw [sapp_in (by omega), Option.bind_some, decimalS_eq h.1.1 h.1.2, Option.bind_some, sapp_in (by simp only [ByteArray.size_append]; omega), Option.bind_some, sapp_in (by simp only [ByteArray.size_append]; omega), Option.bind_some, decimalS_eq h.2.1.1 h.2.1.2, Option.bind_some, sapp_in (by simp only [ByteArray.size_append]; omega), Option.bind_some, sapp_in (by simp only [ByteArray.size_append]; omega), Option.bind_some]
  have ed : kindB t.Kind ++ ByteArray.mk #[32] ++ dec t.Code ++ ByteArray.mk #[32] ++ dec t.Number ++ ByteArray.mk #[10] = headT t := rfl
  rw [ed]
  have hl : (t.Lines.take 300).length ≤ 300 := by simp; omega
  have hsz : ∀ k, (cat ((t.Lines.take k).map lnT)).size ≤ k * 1100003 := fun k => by
    have := cat_size (l := (t.Lines.take k).map lnT) (M := 1100003) (fun x hx => by
      obtain ⟨y, hy, rfl⟩ := List.mem_map.1 hx
      have := h.2.2.2 y (List.mem_of_mem_take hy)
      unfold lnT
      simp only [ByteArray.size_append]
      omega)
    refine Nat.le_trans this (Nat.mul_le_mul_right _ ?_)
    simp
    omega
  have hlen : ∀ s : ByteArray, (bytesL s).length = s.size := fun s => by unfold bytesL; simp
  have key := loopM_at (body := fun (s' : Int × (List Int)) => spec_ShowTold_l1 t s'.1 s'.2) (r := bytesL (toldB t)) (fun k => ((k : Int), bytesL (headT t ++ cat ((t.Lines.take k).map lnT)))) (min t.Lines.length 300) (fun k hk => by
    have hk1 : k < t.Lines.length := by omega
    have hz := h.2.2.2 _ (List.getElem_mem hk1)
    have hs := hsz k
    have : k * 1100003 ≤ 300 * 1100003 := Nat.mul_le_mul_right _ (by omega)
    show spec_ShowTold_l1 t k _ = _
    unfold spec_ShowTold_l1
    rw [ifT (decide_eq_true (by omega)), Option.bind_some, ifT (decide_eq_true (by omega)), geti_nat, List.getElem?_eq_getElem hk1, Option.bind_some, sapp_in (by omega), Option.bind_some, sapp_in (by rw [ByteArray.size_append]; omega), Option.bind_some, appn_in (by rw [hlen, hlen]; simp only [ByteArray.size_append]; omega), Option.bind_some, wkS k (by omega), cat_take hk1, ← bytesLT_app, app_assoc]
    rfl) (by
    show spec_ShowTold_l1 t _ _ = _
    unfold spec_ShowTold_l1
    have ht : t.Lines.take (min t.Lines.length 300) = t.Lines.take 300 := by
      rw [Nat.min_comm, ← List.take_take, List.take_length]
    rw [ht]
    by_cases q : t.Lines.length ≤ 300
    · rw [ifF (b := decide (((min t.Lines.length 300 : Nat) : Int) < (t.Lines.length : Int))) (decide_eq_false (by omega)), Option.bind_some, ifF rfl]
      rfl
    · rw [ifT (b := decide (((min t.Lines.length 300 : Nat) : Int) < (t.Lines.length : Int))) (decide_eq_true (by omega)), Option.bind_some, ifF (decide_eq_false (by omega))]
      rfl)
  have ez : ((0 : Nat) : Int) = 0 := rfl
  simp only [ez, List.take_zero, List.map_nil, cat, app_empty] at key
  rw [key, Option.bind_some]
  unfold spec_ShowTold_j2
  rw [mkS_bytesLT]
theorem toldS_eq {t : T_impl_Told} (h : okT t) : spec_ShowTold t = some (toldB t) := by
  have hj := toldS_j1 h
  unfold spec_ShowTold
  rw [l01In_eq, Option.bind_some]
  by_cases q : 1 ≤ t.Kind ∧ t.Kind ≤ 5
  · rw [ifT (by simp; omega), geti_in (by omega) (by simp; omega), Option.bind_some]
    have hk : t.Kind = 1 ∨ t.Kind = 2 ∨ t.Kind = 3 ∨ t.Kind = 4 ∨ t.Kind = 5 := by omega
    rw [← hj]
    rcases hk with e | e | e | e | e <;> simp only [e] <;> rfl
  · rw [ifF (by cases h1 : (decide (1 ≤ t.Kind) && decide (t.Kind ≤ 5)) with | false => rfl | true => simp at h1; omega)]
    have hk : kindB t.Kind = ByteArray.mk #[110, 111, 110, 101] := by
      unfold kindB
      rw [if_neg (by omega), if_neg (by omega), if_neg (by omega), if_neg (by omega), if_neg (by omega)]
    rw [hk] at hj
    exact hj
theorem showTold_law {aT : T_laws_Told} (h0 : sm_Told aT) : laws_FnExactShowTold aT = some true := by
  unfold laws_FnExactShowTold
  have hsz : laws_szTold (T_laws_Told.mk aT.Kind aT.Code aT.Number aT.Lines) 1048576 = _ := sz_Told (a := aT) (ok_of_Told h0) (by decide) (by decide)
  rw [hsz, Option.bind_some]
  by_cases q2 : (w_Told aT : Int) ≤ 1048576
  · rw [if_pos q2, ifF (decide_eq_false (by omega))]
    have hz := zc_Told aT
    have hto : laws_toTold (T_laws_Told.mk aT.Kind aT.Code aT.Number aT.Lines) = some (c_Told aT) := to_Told (a := aT) (by omega)
    have hw : aT.Lines.length + sumOf ByteArray.size aT.Lines ≤ 1048576 := by
      unfold w_Told w_StringS at q2
      omega
    have hok : okT (c_Told aT) := by
      obtain ⟨g1, g2, g3, g4⟩ := h0
      have hwf : ∀ x : Int, (Lit.int .i64 x).wf = true → -9223372036854775808 ≤ x ∧ x ≤ 9223372036854775807 := fun x hx => by
        simp only [Lit.wf, Bool.and_eq_true, decide_eq_true_eq] at hx
        have e1 : IntKind.min .i64 = -9223372036854775808 := by decide
        have e2 : IntKind.max .i64 = 9223372036854775807 := by decide
        rw [e1, e2] at hx
        exact hx
      refine ⟨?_, ?_, by show aT.Lines.length ≤ _; omega, fun x hx => ?_⟩
      · exact hwf _ g2
      · exact hwf _ g3
      · have := sumOf_mem (w := ByteArray.size) (l := aT.Lines) hx
        omega
    have hS : spec_ShowTold (T_impl_Told.mk (c_Told aT).Kind (c_Told aT).Code (c_Told aT).Number (c_Told aT).Lines) = _ := toldS_eq hok
    have hI : impl_ShowTold (T_impl_Told.mk (c_Told aT).Kind (c_Told aT).Code (c_Told aT).Number (c_Told aT).Lines) = _ := toldI_eq hok
    have heT : laws_eqTold (T_impl_Told.mk (c_Told aT).Kind (c_Told aT).Code (c_Told aT).Number (c_Told aT).Lines) (T_impl_Told.mk (c_Told aT).Kind (c_Told aT).Code (c_Told aT).Number (c_Told aT).Lines) = some true := eq_Told (a := c_Told aT) (by omega)
    simp only [hto, hS, hI, heT, Option.bind_some, beq_self_eq_true, Bool.not_true, Bool.false_eq_true, if_false]
  · rw [if_neg q2, ifT (decide_eq_true (by omega))]
end Go.TV.F
