/- FnExactListOf's pure statement: for every list of 32-bit words the program's ListOf and the reference's ListOf answer the same list of versions, and the marks written into one list are read back. No conditions. -/
import Derived.Test.YtpfmkkkmfddabaaPFnExactListOfx3
namespace Go.Proofs.Ytpfmkkkmfddabaa.Pure
open Go.RowKit Go.Proofs.Ytpfmkkkmfddabaa.PFnExactListOf Go.Proofs.YtpfmkkkmfddabaaW.PrintWords Go.Proofs.YtpfmkkkmfddabaaW.PrintLast Go.Proofs.YtpfmkkkmfddabaaW.PrintMore

theorem w64 {x : Int} (h0 : -9223372036854775808 ≤ x) (h1 : x < 9223372036854775808) : wrap64 x = x := by
  unfold wrap64
  omega

/-- The versions from v on, d of them, that p tells. -/
def pickV (p : Int → Bool) : Nat → Int → List Int
  | 0, _ => []
  | d + 1, v => (if p v then [v] else []) ++ pickV p d (v + 1)

theorem pickV_congr {p q : Int → Bool} : ∀ (d : Nat) (v : Int), (∀ i, v ≤ i → i < v + d → p i = q i) → pickV p d v = pickV q d v
  | 0, _, _ => rfl
  | d + 1, v, h => by
    simp only [pickV]
    rw [h v (by omega) (by omega), pickV_congr d (v + 1) (fun i h0 h1 => h i (by omega) (by omega))]

theorem pickV_length (p : Int → Bool) : ∀ (d : Nat) (v : Int), (pickV p d v).length ≤ d
  | 0, _ => by simp [pickV]
  | d + 1, v => by
    have := pickV_length p d (v + 1)
    simp only [pickV, List.length_append]
    split <;> simp <;> omega

def hasV (s v : Int) : Bool := s / 2 ^ v.toNat % 2 == 1

theorem bits_and_one (x : Int) (h0 : 0 ≤ x) (h1 : x < 2 ^ 64) : Go.bits .and .u64 x 1 = x % 2 :=
  bits_mask .u64 64 (by decide) (fun n h0 h1 => by simp [IntKind.wrap, IntKind.bits, IntKind.signed]; omega) 1 (by decide) x h0 h1

theorem has_eq (s v : Int) (h0 : 0 ≤ s) (h1 : s < 2 ^ 64) (hv0 : 0 ≤ v) (hv1 : v < 64) : impl_set_has.f s v = some (hasV s v) := by
  have hw : IntKind.u64.wrap v = v := by simp [IntKind.wrap, IntKind.bits, IntKind.signed]; omega
  unfold impl_set_has.f impl_inRange.f
  rw [if_pos hv0]
  simp only [Option.bind_some]
  rw [if_pos (by simp; omega), hw, if_pos hv0]
  have hm : min v.toNat (IntKind.bits .u64) = v.toNat := Nat.min_eq_left (by simp [IntKind.bits]; omega)
  unfold shr
  rw [hm, bits_and_one]
  · rfl
  · exact Int.ediv_nonneg h0 (Int.pow_nonneg (by omega))
  · exact Int.lt_of_le_of_lt (Int.ediv_le_self _ h0) h1

theorem list_l0 (s : Int) (h0 : 0 ≤ s) (h1 : s < 2 ^ 64) : ∀ (d k : Nat) (acc : List Int) (v : Int), 0 ≤ v → v + d = 64 → acc.length ≤ 64 → d < k →
    acc.length + d ≤ 64 → impl_set_list.l0 k s acc v = some (acc ++ pickV (hasV s) d v)
  | d, 0, _, _, _, _, _, hk, _ => by omega
  | 0, k + 1, acc, v, hv, hd, _, _, _ => by
    simp only [impl_set_list.l0]
    rw [if_neg (by omega)]
    simp [pickV]
  | d + 1, k + 1, acc, v, hv, hd, ha, hk, hl => by
    simp only [impl_set_list.l0]
    rw [if_pos (by omega), has_eq s v h0 h1 hv (by omega)]
    simp only [Option.bind_some]
    rw [w64 (by omega) (by omega)]
    by_cases hp : hasV s v = true
    · rw [if_pos hp, if_pos (by omega), list_l0 s h0 h1 d k _ (v + 1) (by omega) (by omega) (by simp; omega) (by omega) (by simp; omega)]
      simp [pickV, hp]
    · rw [if_neg hp, list_l0 s h0 h1 d k _ (v + 1) (by omega) (by omega) ha (by omega) (by omega)]
      simp [pickV, hp]

theorem list_f (s : Int) (h0 : 0 ≤ s) (h1 : s < 2 ^ 64) (k : Nat) (hk : 64 < k) : impl_set_list.f k s = some (pickV (hasV s) 64 0) := by
  unfold impl_set_list.f
  rw [list_l0 s h0 h1 64 k [] 0 (by omega) (by omega) (by simp) (by omega) (by simp)]
  rfl

def specBit (l : List Int) (v : Int) : Bool := rd l (v / 32) / 2 ^ (v % 32).toNat % 2 == 1

theorem spec_l1 (l acc : List Int) (v : Int) (hv0 : 0 ≤ v) (hv1 : v < 64) : ∀ (d k : Nat) (x i : Int), 0 ≤ i → i + d = v % 32 → 0 ≤ x → x < 4294967296 → d < k → acc.length ≤ 64 →
    spec_ListOf.l1 k l acc v x i = if x / 2 ^ d % 2 = 1 then spec_ListOf.l0 (k - d - 1) l (acc ++ [v]) (v + 1) else spec_ListOf.l0 (k - d - 1) l acc (v + 1)
  | d, 0, _, _, _, _, _, _, hk, _ => by omega
  | 0, k + 1, x, i, hi, hd, hx0, hx1, _, ha => by
    have e : Int.tmod v 32 = v % 32 := Int.tmod_eq_emod_of_nonneg hv0
    have e2 : Int.tmod x 2 = x % 2 := Int.tmod_eq_emod_of_nonneg hx0
    simp only [spec_ListOf.l1]
    rw [if_neg (by rw [e]; omega), e2]
    simp only [Int.pow_zero, Int.ediv_one]
    rw [w64 (by omega) (by omega), if_pos (show acc.length < 17592186044416 by omega)]
    simp
  | d + 1, k + 1, x, i, hi, hd, hx0, hx1, hk, ha => by
    have e : Int.tmod v 32 = v % 32 := Int.tmod_eq_emod_of_nonneg hv0
    have e2 : Int.tdiv x 2 = x / 2 := Int.tdiv_eq_ediv_of_nonneg hx0
    simp only [spec_ListOf.l1]
    rw [if_pos (by rw [e]; omega), e2, w64 (by omega) (by omega), Int.emod_eq_of_lt (by omega) (by omega)]
    rw [spec_l1 l acc v hv0 hv1 d k (x / 2) (i + 1) (by omega) (by omega) (by omega) (by omega) (by omega) ha]
    have e3 : x / 2 / 2 ^ d = x / 2 ^ (d + 1) := by rw [Int.ediv_ediv_of_nonneg (by omega), Int.pow_succ, Int.mul_comm]
    rw [e3, show k + 1 - (d + 1) - 1 = k - d - 1 by omega]

theorem spec_l0 (l : List Int) (hl : l.length = 2) (hw : ∀ x ∈ l, 0 ≤ x ∧ x < 4294967296) : ∀ (d k : Nat) (acc : List Int) (v : Int), 0 ≤ v → v + d = 64 → acc.length + d ≤ 64 → 40 * d < k →
    spec_ListOf.l0 k l acc v = some (acc ++ pickV (specBit l) d v, true)
  | d, 0, _, _, _, _, _, hk => by omega
  | 0, k + 1, acc, v, hv, hd, _, _ => by
    simp only [spec_ListOf.l0]
    rw [if_neg (by omega)]
    simp [pickV]
  | d + 1, k + 1, acc, v, hv, hd, ha, hk => by
    have e : Int.tdiv v 32 = v / 32 := Int.tdiv_eq_ediv_of_nonneg hv
    have hr : 0 ≤ rd l (v / 32) ∧ rd l (v / 32) < 4294967296 := by
      apply hw
      unfold rd
      rw [List.getD_eq_getElem?_getD, List.getElem?_eq_getElem (show (v / 32).toNat < l.length by omega)]
      exact List.getElem_mem _
    simp only [spec_ListOf.l0]
    rw [if_pos (by omega), e, w64 (by omega) (by omega), if_pos (by omega), if_pos (by omega)]
    rw [spec_l1 l acc v hv (by omega) (v % 32).toNat k _ 0 (by omega) (by omega) hr.1 hr.2 (by omega) (by omega)]
    have hb : (rd l (v / 32) / 2 ^ (v % 32).toNat % 2 = 1) ↔ specBit l v = true := by simp [specBit]
    by_cases hp : specBit l v = true
    · rw [if_pos (hb.2 hp), spec_l0 l hl hw d _ _ (v + 1) (by omega) (by omega) (by simp; omega) (by omega)]
      simp [pickV, hp]
    · rw [if_neg (fun h => hp (hb.1 h)), spec_l0 l hl hw d _ _ (v + 1) (by omega) (by omega) (by omega) (by omega)]
      simp [pickV, hp]

theorem bits_or (x y : Int) (hx0 : 0 ≤ x) (hx1 : x < 4294967296) (hy0 : 0 ≤ y) (hy1 : y < 4294967296) : Go.bits .or .u64 x (y * 4294967296) = x + y * 4294967296 := by
  have h := bits_join .u64 64 (by decide) (fun n h0 h1 => by simp [IntKind.wrap, IntKind.bits, IntKind.signed]; omega) 32 (y * 4294967296) x (by omega) (by omega) (by omega) hx0 (by omega) (by omega)
  have e : Go.bits .or .u64 x (y * 4294967296) = Go.bits .or .u64 (y * 4294967296) x := by simp only [Go.bits, BitVec.or_comm]
  rw [e, h]
  omega

theorem listOf_f (l : List Int) (hl : l.length = 2) (hw : ∀ x ∈ l, 0 ≤ x ∧ x < 4294967296) (k : Nat) (hk : 64 < k) :
    impl_ListOf.f k l = some (pickV (hasV (rd l 0 + rd l 1 * 4294967296)) 64 0, true) := by
  have h0 : 0 ≤ rd l 0 ∧ rd l 0 < 4294967296 := by
    apply hw
    unfold rd
    rw [List.getD_eq_getElem?_getD, List.getElem?_eq_getElem (show (0 : Int).toNat < l.length by simp; omega)]
    exact List.getElem_mem _
  have h1 : 0 ≤ rd l 1 ∧ rd l 1 < 4294967296 := by
    apply hw
    unfold rd
    rw [List.getD_eq_getElem?_getD, List.getElem?_eq_getElem (show (1 : Int).toNat < l.length by simp; omega)]
    exact List.getElem_mem _
  have w : ∀ x : Int, 0 ≤ x → x < 18446744073709551616 → IntKind.u64.wrap x = x := fun x a b => by simp [IntKind.wrap, IntKind.bits, IntKind.signed]; omega
  unfold impl_ListOf.f
  rw [if_pos (by omega), if_pos (by omega), if_pos (by omega), w _ h0.1 (by omega), w _ h1.1 (by omega), w _ (by omega) (by omega), bits_or _ _ h0.1 h0.2 h1.1 h1.2,
    list_f _ (by omega) (by omega) k hk]
  rfl

theorem rd_at {l : List Int} {i : Int} (h : i.toNat < l.length) : rd l i = l[i.toNat] := by
  unfold rd
  rw [List.getD_eq_getElem?_getD, List.getElem?_eq_getElem h]
  rfl

theorem rd_mem {l : List Int} {i : Int} (h : i.toNat < l.length) : rd l i ∈ l := by
  rw [rd_at h]
  exact List.getElem_mem _

theorem copy_l0 (x : List Int) (hx : x.length ≤ 1048576) : ∀ (d k : Nat) (out : List Int) (i : Int), 0 ≤ i → i + d = x.length → out.length = x.length → d < k →
    (∀ j : Nat, (j : Int) < i → out[j]? = x[j]?) → laws_toUint32S.l0 k x out i = some x
  | d, 0, _, _, _, _, _, hk, _ => by omega
  | 0, k + 1, out, i, h0, hd, hl, _, hj => by
    simp only [laws_toUint32S.l0]
    rw [if_neg (by omega)]
    congr 1
    apply List.ext_getElem? 
    intro j
    by_cases h : (j : Int) < i
    · exact hj j h
    · rw [List.getElem?_eq_none (by omega), List.getElem?_eq_none (by omega)]
  | d + 1, k + 1, out, i, h0, hd, hl, hk, hj => by
    simp only [laws_toUint32S.l0]
    rw [if_pos (by omega), if_pos h0, if_pos (by omega), w64 (by omega) (by omega)]
    apply copy_l0 x hx d k _ (i + 1) (by omega) (by omega) (by simp; omega) (by omega)
    intro j h
    have hi : i.toNat < x.length := by omega
    rw [List.getElem?_set]
    by_cases e : i.toNat = j
    · subst e
      rw [if_pos rfl, if_pos (by omega), List.getElem?_eq_getElem hi, rd_at hi]
    · rw [if_neg e]
      exact hj j (by omega)

theorem copy_f (x : List Int) (hx : x.length ≤ 1048576) (k : Nat) (hk : 1048577 < k) : laws_toUint32S.f k x = some x := by
  unfold laws_toUint32S.f
  rw [if_pos (by omega), if_pos (by omega)]
  exact copy_l0 x hx x.length k _ 0 (by omega) (by omega) (by simp) (by omega) (fun j h => by omega)

theorem eqI_l0 (x : List Int) (hx : x.length ≤ 1048576) : ∀ (d k : Nat) (i : Int), 0 ≤ i → i + d = x.length → d < k → laws_eqIntS.l0 k x x i = some true
  | d, 0, _, _, _, hk => by omega
  | 0, k + 1, i, h0, hd, _ => by
    simp only [laws_eqIntS.l0]
    rw [if_neg (by omega)]
  | d + 1, k + 1, i, h0, hd, hk => by
    simp only [laws_eqIntS.l0, if_true]
    rw [if_pos (by omega), if_pos h0, if_pos (by omega), w64 (by omega) (by omega)]
    exact eqI_l0 x hx d k (i + 1) (by omega) (by omega) (by omega)

theorem eqI_f (x : List Int) (hx : x.length ≤ 1048576) (k : Nat) (hk : 1048577 < k) : laws_eqIntS.f k x x = some true := by
  unfold laws_eqIntS.f
  rw [if_pos rfl]
  exact eqI_l0 x hx x.length k 0 (by omega) (by omega) (by omega)

theorem eqU_l0 (x : List Int) (hx : x.length ≤ 1048576) : ∀ (d k : Nat) (i : Int), 0 ≤ i → i + d = x.length → d < k → laws_eqUint32S.l0 k x x i = some true
  | d, 0, _, _, _, hk => by omega
  | 0, k + 1, i, h0, hd, _ => by
    simp only [laws_eqUint32S.l0]
    rw [if_neg (by omega)]
  | d + 1, k + 1, i, h0, hd, hk => by
    simp only [laws_eqUint32S.l0, if_true]
    rw [if_pos (by omega), if_pos h0, if_pos (by omega), w64 (by omega) (by omega)]
    exact eqU_l0 x hx d k (i + 1) (by omega) (by omega) (by omega)

theorem eqU_f (x : List Int) (hx : x.length ≤ 1048576) (k : Nat) (hk : 1048577 < k) : laws_eqUint32S.f k x x = some true := by
  unfold laws_eqUint32S.f
  rw [if_pos rfl]
  exact eqU_l0 x hx x.length k 0 (by omega) (by omega) (by omega)

theorem markU_l0 : ∀ (d k : Nat) (x : List Int) (m i : Int), x.length ≤ 1048576 → 0 ≤ i → i + d = x.length → 0 ≤ m → m ≤ i + 1 → d < k → ∃ y, laws_markUint32S.l0 k x m i = some (m + d, y)
  | d, 0, _, _, _, _, _, _, _, _, hk => by omega
  | 0, k + 1, x, m, i, hx, h0, hd, _, _, _ => by
    simp only [laws_markUint32S.l0]
    rw [if_neg (by omega)]
    exact ⟨x, by simp⟩
  | d + 1, k + 1, x, m, i, hx, h0, hd, hm, hm1, hk => by
    simp only [laws_markUint32S.l0]
    rw [if_pos (by omega), if_pos h0, w64 (x := m + 1) (by omega) (by omega), w64 (x := i + 1) (by omega) (by omega)]
    obtain ⟨y, hy⟩ := markU_l0 d k (x.set i.toNat (m % 4294967296)) (m + 1) (i + 1) (by simpa using hx) (by omega) (by simp; omega) (by omega) (by omega) (by omega)
    exact ⟨y, by rw [hy]; congr 2; omega⟩

theorem markI_l0 : ∀ (d k : Nat) (x : List Int) (i : Int), x.length ≤ 1048576 → 0 ≤ i → i + d = x.length → d < k → (∀ j : Nat, (j : Int) < i → x[j]? = some ((j : Int) + 1)) →
    ∃ y : List Int, laws_markIntS.l0 k x (i + 1) i = some ((x.length : Int) + 1, y) ∧ y.length = x.length ∧ ∀ j : Nat, j < x.length → y[j]? = some ((j : Int) + 1)
  | d, 0, _, _, _, _, _, hk, _ => by omega
  | 0, k + 1, x, i, hx, h0, hd, _, hj => by
    simp only [laws_markIntS.l0]
    rw [if_neg (by omega)]
    exact ⟨x, by congr 2; omega, rfl, fun j h => hj j (by omega)⟩
  | d + 1, k + 1, x, i, hx, h0, hd, hk, hj => by
    simp only [laws_markIntS.l0]
    rw [if_pos (by omega), if_pos h0, w64 (x := i + 1) (by omega) (by omega), w64 (x := i + 1 + 1) (by omega) (by omega)]
    obtain ⟨y, hy, hl, hq⟩ := markI_l0 d k (x.set i.toNat (i + 1)) (i + 1) (by simpa using hx) (by omega) (by simp; omega) (by omega) (by
      intro j h
      rw [List.getElem?_set]
      by_cases e : i.toNat = j
      · rw [if_pos e, if_pos (by omega)]; congr 1; omega
      · rw [if_neg e]; exact hj j (by omega))
    simp only [List.length_set] at hy hl hq
    exact ⟨y, hy, hl, hq⟩

theorem held_l0 (x : List Int) (hx : x.length ≤ 1048576) (hq : ∀ j : Nat, j < x.length → x[j]? = some ((j : Int) + 1)) : ∀ (d k : Nat) (i : Int), 0 ≤ i → i + d = x.length → d < k →
    laws_heldIntS.l0 k x (i + 1) i = some (x.length + 1)
  | d, 0, _, _, _, hk => by omega
  | 0, k + 1, i, h0, hd, _ => by
    simp only [laws_heldIntS.l0]
    rw [if_neg (by omega)]
    congr 1
    omega
  | d + 1, k + 1, i, h0, hd, hk => by
    have hi : i.toNat < x.length := by omega
    have e : rd x i = i + 1 := by
      rw [rd_at hi]
      have := hq i.toNat hi
      rw [List.getElem?_eq_getElem hi] at this
      have := Option.some.inj this
      omega
    simp only [laws_heldIntS.l0]
    rw [if_pos (by omega), if_pos h0, if_pos e, w64 (x := i + 1) (by omega) (by omega), w64 (x := i + 1 + 1) (by omega) (by omega)]
    exact held_l0 x hx hq d k (i + 1) (by omega) (by omega) (by omega)

theorem same_list (l : List Int) (hw : ∀ x ∈ l, 0 ≤ x ∧ x < 4294967296) :
    ∃ r b, r.length ≤ 64 ∧ ∀ k, 4000 < k → spec_ListOf.f k l = some (r, b) ∧ impl_ListOf.f k l = some (r, b) := by
  by_cases h2 : l.length = 2
  · have h0 := hw _ (rd_mem (l := l) (i := 0) (by simp; omega))
    have h1 := hw _ (rd_mem (l := l) (i := 1) (by simp; omega))
    refine ⟨_, true, pickV_length _ 64 0, fun k hk => ⟨?_, listOf_f l h2 hw k (by omega)⟩⟩
    unfold spec_ListOf.f
    simp only [Option.bind_some]
    rw [if_pos (by omega), spec_l0 l h2 hw 64 k [] 0 (by omega) (by omega) (by simp) (by omega)]
    simp only [List.nil_append]
    rw [pickV_congr 64 0 (p := specBit l) (q := hasV (rd l 0 + rd l 1 * 4294967296))]
    intro v hv0 hv1
    unfold specBit hasV
    by_cases hv : v < 32
    · rw [show v / 32 = 0 by omega, show v % 32 = v by omega]
      have e : (rd l 0 + rd l 1 * 4294967296) / 2 ^ v.toNat % 2 = rd l 0 / 2 ^ v.toNat % 2 := by
        have hp : (4294967296 : Int) = 2 ^ v.toNat * (2 * 2 ^ (31 - v.toNat)) := by
          rw [← Int.pow_succ', ← Int.pow_add, show v.toNat + (31 - v.toNat + 1) = 32 by omega]
          rfl
        rw [hp, ← Int.mul_assoc, Int.mul_comm (rd l 1), Int.mul_assoc, Int.add_mul_ediv_left _ _ (Int.pow_ne_zero (by omega) |> fun h => h)]
        rw [← Int.mul_assoc, Int.mul_comm (rd l 1) 2, Int.mul_assoc, Int.add_mul_emod_self_left]
      rw [e]
    · rw [show v / 32 = 1 by omega]
      have e : (rd l 0 + rd l 1 * 4294967296) / 2 ^ v.toNat = rd l 1 / 2 ^ (v % 32).toNat := by
        rw [show v.toNat = 32 + (v % 32).toNat by omega, Int.pow_add, ← Int.ediv_ediv_of_nonneg (by omega)]
        congr 1
        omega
      rw [e]
  · refine ⟨[], false, by simp, fun k hk => ⟨?_, ?_⟩⟩
    · unfold spec_ListOf.f
      simp only [Option.bind_some]
      rw [if_neg (by omega)]
    · unfold impl_ListOf.f
      rw [if_neg (by omega)]

theorem FnExactListOf : laws_FnExactListOf.Pure := by
  intro l hm hs hwf
  refine ⟨2000000, ?_⟩
  unfold laws_FnExactListOf.f
  by_cases hl : (l.length : Int) > 1048576
  · rw [if_pos hl]
  · have hl' : l.length ≤ 1048576 := by omega
    have hw : ∀ x ∈ l, 0 ≤ x ∧ x < 4294967296 := fun x hx => by
      have := hwf x hx
      simp [Lit.wf, IntKind.min, IntKind.max, IntKind.signed, IntKind.bits] at this
      omega
    obtain ⟨r, b, hr, hrb⟩ := same_list l hw
    obtain ⟨h1, h2⟩ := hrb 2000000 (by omega)
    rw [if_neg hl, copy_f l hl' _ (by omega)]
    simp only [Option.bind_some]
    rw [h1]
    simp only [Option.bind_some]
    rw [h2]
    simp only [Option.bind_some]
    rw [eqI_f r (by omega) _ (by omega)]
    simp only [Option.bind_some, bne_self_eq_false, if_true]
    obtain ⟨y, hy, hyl, hyq⟩ := markI_l0 r.length 1999998 r 0 (by omega) (by omega) (by omega) (by omega) (fun j h => by omega)
    obtain ⟨z, hz⟩ := markU_l0 l.length 1999999 l 1 0 hl' (by omega) (by omega) (by omega) (by omega) (by omega)
    have hh : ∀ k, 1999990 < k → laws_heldIntS.f k y 1 = some ((r.length : Int) + 1) := fun k hk => by
      unfold laws_heldIntS.f
      have := held_l0 y (by omega) (by rw [hyl]; exact hyq) y.length k 0 (by omega) (by omega) (by omega)
      rw [hyl] at this
      exact this
    have hj2 : laws_FnExactListOf.j2 1999998 y ((r.length : Int) + 1) false = some true := by
      simp only [laws_FnExactListOf.j2, Bool.false_eq_true, if_false]
      rw [hh _ (by omega)]
      simp only [Option.bind_some, if_true]
      rw [if_neg (by omega)]
    have hj1 : laws_FnExactListOf.j1 1999999 l r b r false = some true := by
      simp only [laws_FnExactListOf.j1, Bool.false_eq_true, if_false]
      rw [show laws_markIntS.f 1999998 r 1 = _ from hy]
      simp only [Option.bind_some]
      rw [hh _ (by omega)]
      simp only [Option.bind_some, if_true]
      rw [if_neg (by omega), copy_f l hl' _ (by omega)]
      simp only [Option.bind_some]
      rw [(hrb 1999998 (by omega)).2]
      simp only [Option.bind_some]
      rw [eqI_f r (by omega) _ (by omega)]
      simp only [Option.bind_some, bne_self_eq_false, if_true]
      exact hj2
    simp only [laws_FnExactListOf.j0, Bool.false_eq_true, if_false]
    rw [copy_f l hl' _ (by omega)]
    simp only [Option.bind_some]
    rw [eqU_f l hl' _ (by omega)]
    simp only [Option.bind_some, if_true]
    rw [show laws_markUint32S.f 1999999 l 1 = _ from hz]
    simp only [Option.bind_some]
    rw [if_neg (by omega), eqI_f r (by omega) _ (by omega)]
    simp only [Option.bind_some, bne_self_eq_false, if_true]
    exact hj1

end Go.Proofs.Ytpfmkkkmfddabaa.Pure
