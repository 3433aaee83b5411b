/- The types. -/
import Derived.Test.YtbapbpnchdpbhaaGreatKFnExactReadWeaveD
import Derived.Test.YtbapbpnchdpbhaaGreatProg
import Derived.Ground.NamesProg
import Derived.Shelf.LaysM
import Derived.Shelf.Strings.Search3
import Derived.Shelf.RegionOpenPlain
import Derived.WalkKit
import Derived.Lib.Walk
import Derived.Lib.SliceRun
import Derived.Lib.JoinLaws
import Derived.Lib.AppendZeros
import Derived.Lib.AppendZerosOnto
import Derived.Lib.Overlaps
import Derived.Laws.Externs
import Derived.Laws.IdiomCopy
import Derived.Laws.NewBlocks
import Derived.Shelf.Spec.SlicesInsertGrow
import Derived.Deep.RegionLaw
import Derived.Test.YtbapbpnchdpbhaaGreatKFnExactReadWeaveT4
import Derived.Shelf.SortM.Plain
import Derived.Shelf.SortM.SortNone
import Derived.Ground.GgzProg
import Derived.Ground.SlgmProg
import Derived.Shelf.SlIterI.Sorted
set_option linter.unusedVariables false
set_option linter.unusedSimpArgs false
set_option maxHeartbeats 8000000
set_option maxRecDepth 100000
namespace Go.TV
open Go.Proofs Go.RowKit Go.Lib
theorem run_clear_k {P : Program} (w : World) (t e ty : TypeId) (z : Value) (k : Nat) (ht : P.underlying t = some (.slice e)) (hv : ∀ w, (zeroValue e).run P w = .ok z w) (hz : z.cells.size = k) (h1 : ∀ v ∈ z.cells.toList, v.oneCell' = true) (b o n c : Nat) (hn : 0 < n)
    (hc : ∀ j, j < n * k → (w.cell? ⟨b, o + j, none⟩).isSome = true) (hf : ∀ j, j < n * k → w.frozen? ⟨b, o + j, none⟩ = false) :
    (Builtin.clear_ #[t] ty #[.slice (some ⟨b, o, none⟩) n c]).run P w = .ok (.tuple #[]) (w.setCells b o (Builtin.zeroCells z.cells n).toList) := by
  have hl : (Builtin.zeroCells z.cells n).toList.length = n * k := by rw [Array.length_toList, size_zeroCells, hz]
  have hst := run_storeCells_cells (P := P) b o (Builtin.zeroCells z.cells n).toList 0 w (by rw [hl]; simpa using hc) (by rw [hl]; simpa using hf) (by
    intro v hv'
    obtain ⟨q, hq, rfl⟩ := List.getElem_of_mem hv'
    have hzq : (Builtin.zeroCells z.cells n).toList[q] = z.cells[q % z.cells.size]! := by
      simp only [Builtin.zeroCells]
      simp
    rw [hzq]
    have hq' : q < n * k := by rw [← hl]; exact hq
    have hk0 : 0 < z.cells.size := by
      rw [hz]
      rcases Nat.eq_zero_or_pos k with rfl | h
      · omega
      · exact h
    rw [getElem!_pos z.cells _ (Nat.mod_lt _ hk0)]
    exact h1 _ (by simp))
  simp only [Nat.add_zero] at hst
  obtain ⟨m, rfl⟩ : ∃ m, n = m + 1 := ⟨n - 1, by omega⟩
  simp [Builtin.clear_, run_underlying ht, hv, hst]
set_option maxHeartbeats 4000000 in
set_option maxRecDepth 100000 in
theorem del_same184 (A : Option Addr) (n c i : Nat) (w : World) (hi : i ≤ n) (hc : n ≤ c) (hA : A = none → n = 0 ∧ c = 0) :
    Calls Tryz.prog 184 #[.slice A n c, .int .i64 i, .int .i64 i] w fun e w' => e = .returned (.slice A n c) ∧ w' = w := by
  have mixed : Tryz.prog.follows Departure.mixedOrders = true := by rfl
  have t40 : Tryz.prog.underlying 39 = some (.slice 3) := by rfl
  cases A with
  | none =>
    obtain ⟨rfl, rfl⟩ := hA rfl
    obtain rfl : i = 0 := by omega
    go_enter Tryz.func184, Tryz.ntmps184
    go_wp2
    all_goals (go_ret; exact ⟨rfl, rfl⟩)
  | some a =>
    clear hA
    go_enter Tryz.func184, Tryz.ntmps184
    go_wp2
    all_goals (go_ret; exact ⟨rfl, rfl⟩)
set_option maxHeartbeats 4000000 in
set_option maxRecDepth 100000 in
theorem del_run184 {k : Nat} {i0 : TypeInfo} {z : Value} (hkv : k = 1) (hi0 : Tryz.prog.info? 3 = some i0) (hz1 : i0.size = k) (hv : ∀ w, (zeroValue 3).run Tryz.prog w = .ok z w) (hzs : z.cells.size = k) (hzo : ∀ v ∈ z.cells.toList, v.oneCell' = true)
    (b off n c i j : Nat) (cs : List Value) (w : World) (hlt : i < j) (hj : j ≤ n) (hc : n ≤ c) (hcl : cs.length = n * k)
    (hcs : ∀ q v, cs[q]? = some v → w.cell? ⟨b, off + q, none⟩ = some v) (hfz : ∀ q, q < n * k → w.frozen? ⟨b, off + q, none⟩ = false) (h1c : ∀ v ∈ cs, v.oneCell' = true) :
    Calls Tryz.prog 184 #[.slice (some ⟨b, off, none⟩) n c, .int .i64 i, .int .i64 j] w fun e w' => e = .returned (.slice (some ⟨b, off, none⟩) (n - (j - i)) c) ∧
      ∃ zs : List Value, zs.length = (n - (i + (n - j))) * k ∧ w' = (w.drew.setCells b (off + i * k) (cs.drop (j * k))).setCells b (off + (i + (n - j)) * k) zs := by
  have mixed : Tryz.prog.follows Departure.mixedOrders = true := by rfl
  have t40 : Tryz.prog.underlying 39 = some (.slice 3) := by rfl
  have hjk : j * k ≤ n * k := Nat.mul_le_mul_right k hj
  have hik : i * k ≤ j * k := Nat.mul_le_mul_right k (by omega)
  have hsp : ∀ q, q < n * k → (w.cell? ⟨b, off + q, none⟩).isSome = true := fun q hq => by
    rw [hcs q _ (List.getElem?_eq_getElem (by omega))]
    rfl
  obtain ⟨news, hnews⟩ : ∃ news, news = cs.drop (j * k) := ⟨_, rfl⟩
  have hnl : news.length = (n - j) * k := by rw [hnews, List.length_drop, hcl, Nat.sub_mul]
  have hsub : (n - j) * k = n * k - j * k := Nat.sub_mul _ _ _
  obtain ⟨A, hA, hsrc⟩ : ∃ A : Addr, (if c = j then some (⟨b, off, none⟩ : Addr) else some ⟨b, off + j * k, none⟩) = some A ∧ Hid (∀ t u, news[t]? = some u → w.drew.cell? (A.add t) = some u) := by
    by_cases h : c = j
    · refine ⟨⟨b, off, none⟩, by simp [h], fun t u hu => ?_⟩
      have h0 : news.length = 0 := by rw [hnl, show n - j = 0 by omega, Nat.zero_mul]
      rw [List.length_eq_zero_iff.1 h0] at hu
      simp at hu
    · refine ⟨⟨b, off + j * k, none⟩, by simp [h], fun t u hu => ?_⟩
      rw [hnews, List.getElem?_drop] at hu
      rw [Addr.add_lit, Nat.add_assoc]
      exact hcs _ _ hu
  have s1 : Hid (news.length = (n - j) * k) := hnl
  have s2 : Hid (∀ u ∈ news, u.oneCell' = true) := by
    intro u hu
    rw [hnews] at hu
    exact h1c u (List.mem_of_mem_drop hu)
  have s3 : Hid (∀ t, t < news.length → (w.drew.cell? ⟨b, off + i * k + t, none⟩).isSome = true ∧ w.drew.frozen? ⟨b, off + i * k + t, none⟩ = false) := by
    intro t ht
    rw [hnl] at ht
    rw [Nat.add_assoc]
    exact ⟨hsp _ (by omega), hfz _ (by omega)⟩
  obtain ⟨W1, hW1⟩ : ∃ W1, W1 = w.drew.setCells b (off + i * k) news := ⟨_, rfl⟩
  have hijn : (i + (n - j)) * k = i * k + (n * k - j * k) := by rw [Nat.add_mul, hsub]
  have hrest : (n - (i + (n - j))) * k = j * k - i * k := by rw [show n - (i + (n - j)) = j - i by omega, Nat.sub_mul]
  have hclr : ∀ ty, (Builtin.clear_ #[39] ty #[.slice (some ⟨b, off + (i + (n - j)) * k, none⟩) (n - (i + (n - j))) (c - (i + (n - j)))]).run Tryz.prog W1 = .ok (.tuple #[]) (W1.setCells b (off + (i + (n - j)) * k) (Builtin.zeroCells z.cells (n - (i + (n - j)))).toList) :=
    fun ty => run_clear_k W1 _ _ ty z k t40 hv hzs hzo b (off + (i + (n - j)) * k) _ _ (by omega) (fun t ht => by
      rw [hrest] at ht
      rw [hW1, hijn]
      refine isSome_setCells b _ _ _ (fun q hq => ?_) _ ?_
      · rw [hnl] at hq
        rw [Nat.add_assoc]
        exact hsp _ (by omega)
      · rw [Nat.add_assoc]
        exact hsp _ (by omega)) (fun t ht => by
      rw [hrest] at ht
      rw [hW1, World.frozen?_setCells, hijn, Nat.add_assoc]
      exact hfz _ (by omega))
  obtain ⟨zs, hzz⟩ : ∃ zs, zs = (Builtin.zeroCells z.cells (n - (i + (n - j)))).toList := ⟨_, rfl⟩
  have hzl : Hid (zs.length = (n - (i + (n - j))) * k) := by show zs.length = _; rw [hzz, Array.length_toList, size_zeroCells, hzs]
  rw [← hzz] at hclr
  have hW : Hid (W1 = w.drew.setCells b (off + i * k) news) := hW1
  have hN : Hid (news = cs.drop (j * k)) := hnews
  have hic : i ≤ c := by omega
  have hjc : j ≤ c := by omega
  have hszz : (Tryz.prog.info? 3).map (·.size) = some k := by rw [hi0]; simp [hz1]
  subst hkv
  try simp only [Nat.mul_one] at hA hclr
  clear hW1 hnews hnl hcs hfz h1c hsp hv hzo hzs hcl hzz
  go_enter Tryz.func184, Tryz.ntmps184
  go_wp2_with fail
  go_region_law_o (refine step_append_room rfl (.tmp 22) (.tmp 25) 39 rfl 3 i0 1 t40 hi0 hz1 b off i c (by simp [Act.eval, Act.put]) A (n - j) (c - j) news (by simp [Act.eval, Act.put]) s1.out hsrc.out s2.out (by omega) s3.out ?_; rw [← hW.out])
  go_wp2
  go_ret
  refine ⟨by rw [show n - (j - i) = i + (n - j) by omega]; rfl, zs, hzl.out, ?_⟩
  rw [← hN.out, ← hW.out]
  try simp only [Nat.mul_one]
set_option maxRecDepth 100000 in
theorem delRaw184 : DelRaw Tryz.prog 184 1 := by
  obtain ⟨i0, hi0, hz1⟩ : ∃ i0 : TypeInfo, Tryz.prog.info? 3 = some i0 ∧ i0.size = 1 := ⟨_, rfl, rfl⟩
  obtain ⟨z, hv, hzs, hzo⟩ : ∃ z : Value, (∀ w, (zeroValue 3).run Tryz.prog w = .ok z w) ∧ z.cells.size = 1 ∧ ∀ v ∈ z.cells.toList, v.oneCell' = true := ⟨_, fun w => rfl, rfl, fun v hv => List.all_eq_true.1 (by rfl) v hv⟩
  refine ⟨⟨_, rfl, rfl, rfl⟩, fun b off n c i j cs w hlt hj hc hn hcl hcs hfz h1c => ?_, fun A n c i w hi hc hn hA => (del_same184 A n c i w hi hc hA).mono ?_⟩
  · refine (del_run184 rfl hi0 hz1 hv hzs hzo b off n c i j cs w hlt hj hc hcl hcs hfz h1c).mono ?_
    rintro e w' ⟨rfl, zs, hzl, rfl⟩
    refine ⟨rfl, w.drew, zs, qM2 w, by rw [hzl]; congr 1; omega, ?_⟩
    rw [qN0, List.length_drop, hcl]
    congr 1
    have h1 : j * 1 ≤ n * 1 := Nat.mul_le_mul_right 1 hj
    rw [Nat.add_mul, Nat.sub_mul]
    omega
  · rintro e w' ⟨rfl, rfl⟩
    exact ⟨rfl, Frm.refl _ _⟩
end Go.TV
namespace Go.Proofs
open Go.RowKit Go.Maps Go.Sort Go.Shelf
def Tryz.sortedA_ren : Go.Shelf.Ren := ⟨fun | 6 => 74 | 8 => 185 | 9 => 186 | 11 => 260 | 13 => 262 | 12 => 261 | 23 => 301 | 24 => 302 | 14 => 292 | 15 => 293 | 16 => 294 | 17 => 295 | 18 => 296 | 19 => 297 | 20 => 298 | 21 => 299 | 22 => 300 | 25 => 316 | 26 => 317 | 27 => 318 | 28 => 319 | 29 => 320 | 30 => 321 | 31 => 328 | n => n, fun | 26 => 3 | 28 => 119 | 24 => 39 | 0 => 0 | 3 => 3 | 37 => 237 | 48 => 59 | 50 => 123 | 4 => 4 | 40 => 310 | 39 => 309 | 45 => 296 | 5 => 5 | 9 => 9 | 51 => 325 | 55 => 329 | 57 => 333 | 58 => 334 | 33 => 235 | n => n, fun | n => n⟩
theorem Tryz.sortedA : Go.Proofs.SlLaysZI.n6 Tryz.prog Tryz.sortedA_ren := {
  mixed := by kernel_rfl
  f6 := ⟨Tryz.f74.name, by decide, Tryz.func74.trans (congrArg some (by kernel_rfl))⟩
  f8 := ⟨Tryz.f185.name, by decide, Tryz.func185.trans (congrArg some (by kernel_rfl))⟩
  f11 := ⟨Tryz.f260.name, by decide, Tryz.func260.trans (congrArg some (by kernel_rfl))⟩
  t0 := Tryz.underlying0
  a0 := Tryz.isAgg0
  z0 := Tryz.sizeOf0
  v0 := Tryz.zeroValue0
  t24 := Tryz.underlying39
  a24 := Tryz.isAgg39
  z24 := Tryz.sizeOf39
  v24 := Tryz.zeroValue39
  t26 := Tryz.underlying3
  a26 := Tryz.isAgg3
  z26 := Tryz.sizeOf3
  v26 := Tryz.zeroValue3
  t28 := Tryz.underlying119
  a28 := Tryz.isAgg119
  z28 := Tryz.sizeOf119
  v28 := Tryz.zeroValue119
  i26 := by kernel_rfl }
def Tryz.sortA_ren : Go.Shelf.Ren := ⟨fun | 5 => 186 | 8 => 262 | 7 => 261 | 19 => 301 | 20 => 302 | 10 => 292 | 11 => 293 | 12 => 294 | 13 => 295 | 14 => 296 | 15 => 297 | 16 => 298 | 17 => 299 | 18 => 300 | 30 => 316 | 31 => 317 | 32 => 318 | 33 => 319 | 34 => 320 | 35 => 321 | 40 => 328 | n => n, fun | 23 => 39 | 25 => 3 | 3 => 3 | 32 => 237 | 22 => 39 | 0 => 0 | 44 => 59 | 46 => 123 | 4 => 4 | 36 => 310 | 35 => 309 | 41 => 296 | 5 => 5 | 9 => 9 | 53 => 325 | 57 => 329 | 63 => 333 | 64 => 334 | n => n, fun | n => n⟩
theorem Tryz.sortA : Go.Proofs.SlLaysM.n5 Tryz.prog Tryz.sortA_ren := {
  mixed := by kernel_rfl
  f5 := ⟨Tryz.f186.name, by decide, Tryz.func186.trans (congrArg some (by kernel_rfl))⟩
  f7 := ⟨Tryz.f261.name, by decide, Tryz.func261.trans (congrArg some (by kernel_rfl))⟩
  f8 := Tryz.func262.trans (congrArg some (by kernel_rfl))
  f10 := ⟨Tryz.f292.name, by decide, Tryz.func292.trans (congrArg some (by kernel_rfl))⟩
  f11 := ⟨Tryz.f293.name, by decide, Tryz.func293.trans (congrArg some (by kernel_rfl))⟩
  f12 := ⟨Tryz.f294.name, by decide, Tryz.func294.trans (congrArg some (by kernel_rfl))⟩
  f13 := ⟨Tryz.f295.name, by decide, Tryz.func295.trans (congrArg some (by kernel_rfl))⟩
  f14 := ⟨Tryz.f296.name, by decide, Tryz.func296.trans (congrArg some (by kernel_rfl))⟩
  f15 := ⟨Tryz.f297.name, by decide, Tryz.func297.trans (congrArg some (by kernel_rfl))⟩
  f16 := ⟨Tryz.f298.name, by decide, Tryz.func298.trans (congrArg some (by kernel_rfl))⟩
  f17 := ⟨Tryz.f299.name, by decide, Tryz.func299.trans (congrArg some (by kernel_rfl))⟩
  f18 := ⟨Tryz.f300.name, by decide, Tryz.func300.trans (congrArg some (by kernel_rfl))⟩
  f19 := Tryz.func301.trans (congrArg some (by kernel_rfl))
  f20 := Tryz.func302.trans (congrArg some (by kernel_rfl))
  f30 := ⟨Tryz.f316.name, by decide, Tryz.func316.trans (congrArg some (by kernel_rfl))⟩
  f31 := Tryz.func317.trans (congrArg some (by kernel_rfl))
  f32 := Tryz.func318.trans (congrArg some (by kernel_rfl))
  f33 := ⟨Tryz.f319.name, by decide, Tryz.func319.trans (congrArg some (by kernel_rfl))⟩
  f34 := ⟨Tryz.f320.name, by decide, Tryz.func320.trans (congrArg some (by kernel_rfl))⟩
  f35 := ⟨Tryz.f321.name, by decide, Tryz.func321.trans (congrArg some (by kernel_rfl))⟩
  f40 := ⟨Tryz.f328.name, by decide, Tryz.func328.trans (congrArg some (by kernel_rfl))⟩
  t0 := Tryz.underlying0
  a0 := Tryz.isAgg0
  z0 := Tryz.sizeOf0
  v0 := Tryz.zeroValue0
  t3 := Tryz.underlying3
  a3 := Tryz.isAgg3
  z3 := Tryz.sizeOf3
  v3 := Tryz.zeroValue3
  t4 := Tryz.underlying4
  a4 := Tryz.isAgg4
  z4 := Tryz.sizeOf4
  v4 := Tryz.zeroValue4
  t5 := Tryz.underlying5
  a5 := Tryz.isAgg5
  z5 := Tryz.sizeOf5
  v5 := Tryz.zeroValue5
  t9 := Tryz.underlying9
  a9 := Tryz.isAgg9
  z9 := Tryz.sizeOf9
  v9 := Tryz.zeroValue9
  t22 := Tryz.underlying39
  a22 := Tryz.isAgg39
  z22 := Tryz.sizeOf39
  v22 := Tryz.zeroValue39
  t23 := Tryz.underlying39
  a23 := Tryz.isAgg39
  z23 := Tryz.sizeOf39
  v23 := Tryz.zeroValue39
  t25 := Tryz.underlying3
  a25 := Tryz.isAgg3
  z25 := Tryz.sizeOf3
  v25 := Tryz.zeroValue3
  t32 := Tryz.underlying237
  a32 := Tryz.isAgg237
  z32 := Tryz.sizeOf237
  v32 := Tryz.zeroValue237
  t35 := Tryz.underlying309
  a35 := Tryz.isAgg309
  z35 := Tryz.sizeOf309
  v35 := Tryz.zeroValue309
  t36 := Tryz.underlying310
  a36 := Tryz.isAgg310
  z36 := Tryz.sizeOf310
  v36 := Tryz.zeroValue310
  t41 := Tryz.underlying296
  a41 := Tryz.isAgg296
  z41 := Tryz.sizeOf296
  v41 := Tryz.zeroValue296
  t44 := Tryz.underlying59
  a44 := Tryz.isAgg59
  z44 := Tryz.sizeOf59
  v44 := Tryz.zeroValue59
  t46 := Tryz.underlying123
  a46 := Tryz.isAgg123
  z46 := Tryz.sizeOf123
  v46 := Tryz.zeroValue123
  t53 := Tryz.underlying325
  a53 := Tryz.isAgg325
  z53 := Tryz.sizeOf325
  v53 := Tryz.zeroValue325
  t57 := Tryz.underlying329
  a57 := Tryz.isAgg329
  z57 := Tryz.sizeOf329
  v57 := Tryz.zeroValue329
  t63 := Tryz.underlying333
  a63 := Tryz.isAgg333
  z63 := Tryz.sizeOf333
  v63 := Tryz.zeroValue333
  t64 := Tryz.underlying334
  a64 := Tryz.isAgg334
  z64 := Tryz.sizeOf334
  v64 := Tryz.zeroValue334 }
theorem Tryz.sortsA (m : Nat) : AnyZI.SortsIn Tryz.prog Tryz.sortedA_ren Fence.wide m :=
  ⟨fun blk off cap ss W hH hblk hsz => callsIn_wide.2 (AnyM.slices_Sort_int Tryz.sortA blk off cap ss W hH hblk hsz),
   fun p cap W => callsIn_wide.2 (AnyM.slices_Sort_int_none Tryz.sortA p cap W)⟩
end Go.Proofs
namespace Go.TV
open Go.Proofs Go.RowKit Go.Maps Go.Sort Go.Shelf
set_option maxRecDepth 100000 in
set_option maxHeartbeats 2000000 in
theorem vals_in187 (n : Nat) (hn : 1 ≤ n) (l Bm Bo : Nat) (A : Option Addr) (cap : Nat) (d : List Int) (J : List Int → World → Prop)
    (hY : ∀ pre x W, J pre W → pre.length < d.length → YieldAt Fence.wide (n - 1) Tryz.prog l #[encZ x] W fun e W' => e = .returned (.bool true) ∧ J (pre ++ [x]) W' ∧ KeepsWalks W W')
    (W : World) (hJ : AbidesFrom W.heap.size J) (hlen : d.length ≤ 549755813888) (hm : W.cell? ⟨Bm, Bo, none⟩ = some (.slice A d.length cap))
    (hd : ∀ s W1, J s W1 → ∀ q x, d[q]? = some x → ∃ b off, A = some ⟨b, off, none⟩ ∧ W1.cell? ⟨b, off + q, none⟩ = some (encZ x)) (h0 : J [] W) :
    CallsIn Fence.wide n Tryz.prog 187 #[.func (.yield l) #[] #[], .pointer (some ⟨Bm, Bo, none⟩)] W fun e W' => (∃ v, e = .returned v) ∧ J d W' := by
  have hro : Fence.wide.round = none := rfl
  have t40 : Tryz.prog.underlying 39 = some (.slice 3) := by rfl
  refine callsIn_of_wp Tryz.func187 rfl trivial ?_ rfl
  simp only [Tryz.ntmps187, List.size_toArray, List.length_cons, List.length_nil, Nat.reduceAdd, Nat.reduceSub, Array.replicate_succ, Array.replicate_zero, List.push_toArray, List.append_toArray, List.nil_append, List.cons_append]
  gi_wp2
  gi_loopw [7] (fun vi wr => ∃ k : Nat, vi = .int .i64 k ∧ k ≤ d.length ∧ J (d.take k) wr) (fun vi _ => d.length - (RowKit.intOf vi).toNat)
  case atStart =>
    exact ⟨0, rfl, by omega, by simpa using h0⟩
  case round =>
    obtain ⟨k, rfl, hk, hJs⟩ := hrel
    by_cases hkl : k < d.length
    · obtain ⟨x, hx⟩ : ∃ x, d[k]? = some x := ⟨_, List.getElem?_eq_getElem hkl⟩
      obtain ⟨b, off, rfl, hc⟩ := hd _ _ hJs k x hx
      have hc : wr.cell? ⟨b, off + k, none⟩ = some (.int .i64 x) := hc
      obtain ⟨fn, tmps, assign, body, hy, hR⟩ := hY (d.take k) x wr hJs (by rw [List.length_take]; omega)
      have hy : (Instr.yield l #[.int .i64 x]).run Tryz.prog wr = .ok (.round l fn tmps assign body) wr := hy
      gi_wp2
      refine hR.mono ?_
      rintro e W3 ⟨rfl, hJ3, hk3⟩
      gi_wp2
      go_roundw
      case rel =>
        refine ⟨k + 1, rfl, by omega, ?_⟩
        rw [List.take_add_one, hx]
        exact hJ3
      case measure =>
        simp [RowKit.intOf]
        omega
    · obtain rfl : k = d.length := by omega
      gi_wp2
      go_end0
      rw [List.take_length] at hJs
      exact ⟨⟨_, rfl⟩, hJs⟩
theorem sorted_run74 (w : World) (Bm Bo : Nat) (A : Option Addr) (cap : Nat) (d : List Int) (hBm : Bm < w.heap.size) (hm : w.cell? ⟨Bm, Bo, none⟩ = some (.slice A d.length cap))
    (hd : ∀ q x, d[q]? = some x → ∃ b off, A = some ⟨b, off, none⟩ ∧ b < w.heap.size ∧ w.cell? ⟨b, off + q, none⟩ = some (encZ x)) (hlen : d.length ≤ 549755813888) :
    Calls Tryz.prog 74 #[.func (.func 187) #[] #[.pointer (some ⟨Bm, Bo, none⟩)]] w fun e w' => ∃ (t : TypeId) (v : Value), e = .returned v ∧ w'.ownsRow w.heap.size t 1 v d.length ((d.mergeSort (fun x y => decide (x ≤ y))).map encZ) ∧ Below w.heap.size w w' := by
  have hseq : SeqB Fence.wide 3 Tryz.prog 187 #[.pointer (some ⟨Bm, Bo, none⟩)] d w := fun l J W hW hJ hB hY h0 =>
    vals_in187 3 (by omega) l Bm Bo A cap d J hY W hJ hlen ((hW.cell (p := ⟨Bm, Bo, none⟩) hBm).trans hm) (fun s W1 hJ1 q x hx => by
      obtain ⟨b, off, e, hb, hc⟩ := hd q x hx
      exact ⟨b, off, e, ((hB s W1 hJ1).cell (p := ⟨b, off + q, none⟩) hb).trans hc⟩) h0
  have cS := sortedB_in Tryz.sortedA Fence.wide 6 trivial trivial trivial trivial rfl (by omega) (Tryz.sortsA _) (enters_of Tryz.func186 (by kernel_rfl) rfl) 187 #[.pointer (some ⟨Bm, Bo, none⟩)] trivial (enters_of Tryz.func187 (by kernel_rfl) rfl) d (by simp only [maxLen]; omega) (by omega) w hseq
  change CallsIn _ _ Tryz.prog 74 _ _ _ at cS
  refine ((callsIn_wide (n := 6)).1 cS).mono ?_
  rintro e w' ⟨v, rfl, h1, h2, h3⟩
  exact ⟨_, v, rfl, h1, h3⟩
theorem values_run75 (w : World) (A : Option Addr) (n c : Nat) : Calls Tryz.prog 75 #[.slice A n c] w fun e w' => e = .returned (.func (.func 187) #[] #[.pointer (some ⟨w.heap.size, 0, none⟩)]) ∧ w' = w.alloc (.cells #[.slice A n c] 39) := by
  go_enter Tryz.func75, Tryz.ntmps75
  go_wp2
  go_ret
  exact ⟨rfl, rfl⟩
theorem sortRaw75 : SortRaw Tryz.prog 75 74 187 where
  fnv := ⟨_, Tryz.func75, rfl, rfl⟩
  fns := ⟨_, Tryz.func74, rfl, rfl⟩
  values := fun w A n c => (values_run75 w A n c).mono fun e w' h => ⟨h.1, _, h.2⟩
  sorted := fun w Bm Bo A cap d h1 h2 h3 h4 => sorted_run74 w Bm Bo A cap d h1 h2 h3 h4
end Go.TV
namespace Go.Proofs
open Go.Shelf
def Tryz.lays144_ren : Go.Shelf.Ren := ⟨fun | 144 => 267 | 143 => 304 | 219 => 323 | 217 => 329 | 225 => 330 | 224 => 331 | 267 => 332 | 266 => 335 | 314 => 336 | n => n, fun | 9 => 9 | 4 => 4 | 3 => 3 | 5 => 5 | 46 => 237 | 146 => 337 | 51 => 59 | n => n, fun | 1 => 0 | n => n⟩
theorem Tryz.lays144 : Go.Proofs.LaysM.n144 Tryz.prog Tryz.lays144_ren := {
  mixed := by kernel_rfl
  f143 := Tryz.func304.trans (congrArg some (by kernel_rfl))
  f144 := Tryz.func267.trans (congrArg some (by kernel_rfl))
  f217 := Tryz.func329.trans (congrArg some (by kernel_rfl))
  f219 := Tryz.func323.trans (congrArg some (by kernel_rfl))
  f224 := Tryz.func331.trans (congrArg some (by kernel_rfl))
  f225 := Tryz.func330.trans (congrArg some (by kernel_rfl))
  f266 := Tryz.func335.trans (congrArg some (by kernel_rfl))
  f267 := Tryz.func332.trans (congrArg some (by kernel_rfl))
  f314 := Tryz.func336.trans (congrArg some (by kernel_rfl))
  t3 := Tryz.underlying3
  a3 := Tryz.isAgg3
  z3 := Tryz.sizeOf3
  v3 := Tryz.zeroValue3
  t4 := Tryz.underlying4
  a4 := Tryz.isAgg4
  z4 := Tryz.sizeOf4
  v4 := Tryz.zeroValue4
  t5 := Tryz.underlying5
  a5 := Tryz.isAgg5
  z5 := Tryz.sizeOf5
  v5 := Tryz.zeroValue5
  t9 := Tryz.underlying9
  a9 := Tryz.isAgg9
  z9 := Tryz.sizeOf9
  v9 := Tryz.zeroValue9
  t46 := Tryz.underlying237
  a46 := Tryz.isAgg237
  z46 := Tryz.sizeOf237
  v46 := Tryz.zeroValue237
  t51 := Tryz.underlying59
  a51 := Tryz.isAgg59
  z51 := Tryz.sizeOf59
  v51 := Tryz.zeroValue59
  t146 := Tryz.underlying337
  a146 := Tryz.isAgg337
  z146 := Tryz.sizeOf337
  v146 := Tryz.zeroValue337
  g1 := by kernel_rfl
  i3 := by kernel_rfl
  i4 := by kernel_rfl
  i5 := by kernel_rfl
  i9 := by kernel_rfl
  i46 := by kernel_rfl
  i51 := by kernel_rfl
  i146 := by kernel_rfl
  m1 := by kernel_rfl
  s1_3 := fun w h => Go.Proofs.cell_of_shapedOpen_int (zero := #[.int .i64 0]) (t := 3) h (of_decide_eq_true (by kernel_rfl)) (by kernel_rfl) rfl (by kernel_rfl) (by kernel_rfl) Tryz.underlying3 }
end Go.Proofs
namespace Go.TV.KFnExactReadWeave
open Go.Proofs.Tryz
noncomputable def X : Cfg := Cfg.ofG prog (by rfl) [(Go.Proofs.Tryz.lays144_ren.g 1, isNum)]
theorem t3 : X.T 3 = some ⟨1, 8, .int .i64, [.sc (.int .i64 0)]⟩ := by rfl
theorem t4 : X.T 4 = some ⟨1, 1, .bool, [.sc (.bool false)]⟩ := by rfl
theorem t5 : X.T 5 = some ⟨1, 1, .int .u8, [.sc (.int .u8 0)]⟩ := by rfl
theorem t9 : X.T 9 = some ⟨1, 16, .string, [.sc (.string (ByteArray.mk #[]))]⟩ := by rfl
theorem t22 : X.T 22 = some ⟨1, 24, .slice 5, [.list true 1 []]⟩ := by rfl
theorem t24 : X.T 24 = some ⟨1, 24, .slice 39, [.list true 1 []]⟩ := by rfl
theorem t25 : X.T 25 = some ⟨1, 24, .slice 46, [.list true 4 []]⟩ := by rfl
theorem t27 : X.T 27 = some ⟨2, 48, .struct [(0, 24), (1, 25)], [.list true 1 [], .list true 4 []]⟩ := by rfl
theorem t30 : X.T 30 = some ⟨1, 24, .slice 114, [.list true 3 []]⟩ := by rfl
theorem t36 : X.T 36 = some ⟨1, 24, .slice 9, [.list true 1 []]⟩ := by rfl
theorem t39 : X.T 39 = some ⟨1, 24, .slice 3, [.list true 1 []]⟩ := by rfl
theorem t46 : X.T 46 = some ⟨4, 56, .struct [(0, 9), (1, 3), (2, 3), (3, 39)], [.sc (.string (ByteArray.mk #[])), .sc (.int .i64 0), .sc (.int .i64 0), .list true 1 []]⟩ := by rfl
theorem t59 : X.T 59 = some ⟨1, 4, .int .u32, [.sc (.int .u32 0)]⟩ := by rfl
theorem t112 : X.T 112 = some ⟨3, 40, .struct [(0, 4), (1, 3), (2, 39)], [.sc (.bool false), .sc (.int .i64 0), .list true 1 []]⟩ := by rfl
theorem t114 : X.T 114 = some ⟨3, 32, .struct [(0, 3), (1, 3), (2, 9)], [.sc (.int .i64 0), .sc (.int .i64 0), .sc (.string (ByteArray.mk #[]))]⟩ := by rfl
theorem t124 : X.T 124 = some ⟨1, 8, .int .u64, [.sc (.int .u64 0)]⟩ := by rfl
theorem t125 : X.T 125 = some ⟨1, 24, .slice 124, [.list true 1 []]⟩ := by rfl
theorem t139 : X.T 139 = some ⟨2, 32, .struct [(0, 137), (1, 22)], [.sc (.pointer none), .list true 1 []]⟩ := by rfl
theorem t153 : X.T 153 = some ⟨3, 32, .struct [(0, 9), (1, 3), (2, 4)], [.sc (.string (ByteArray.mk #[])), .sc (.int .i64 0), .sc (.bool false)]⟩ := by rfl
theorem t163 : X.T 163 = some ⟨3, 32, .struct [(0, 9), (1, 3), (2, 4)], [.sc (.string (ByteArray.mk #[])), .sc (.int .i64 0), .sc (.bool false)]⟩ := by rfl
theorem t188 : X.T 188 = some ⟨1, 24, .slice 4, [.list true 1 []]⟩ := by rfl
theorem t237 : X.T 237 = some ⟨1, 8, .int .u64, [.sc (.int .u64 0)]⟩ := by rfl
theorem t249 : X.T 249 = some ⟨1, 24, .slice 188, [.list true 1 []]⟩ := by rfl
end Go.TV.KFnExactReadWeave
