/- The types. -/
import Derived.Test.YthfhiepgdeghpaaKFnLivesD
import Derived.Test.YthfhiepgdeghpaaProg
import Derived.Ground.NamesProg
import Derived.Shelf.LaysM
import Derived.Shelf.Strings.Search3
set_option linter.unusedVariables false
set_option linter.unusedSimpArgs false
set_option maxHeartbeats 8000000
set_option maxRecDepth 100000
namespace Go.Proofs
open Go.Shelf
def Try.lays144_ren : Go.Shelf.Ren := ⟨fun | 144 => 207 | 143 => 212 | 219 => 215 | 217 => 216 | 225 => 217 | 224 => 218 | 267 => 219 | 266 => 220 | 314 => 221 | n => n, fun | 9 => 9 | 4 => 4 | 3 => 3 | 5 => 5 | 46 => 199 | 146 => 232 | 51 => 174 | n => n, fun | 1 => 0 | n => n⟩
theorem Try.lays144 : Go.Proofs.LaysM.n144 Try.prog Try.lays144_ren := {
  mixed := by kernel_rfl
  f143 := Try.func212.trans (congrArg some (by kernel_rfl))
  f144 := Try.func207.trans (congrArg some (by kernel_rfl))
  f217 := Try.func216.trans (congrArg some (by kernel_rfl))
  f219 := Try.func215.trans (congrArg some (by kernel_rfl))
  f224 := Try.func218.trans (congrArg some (by kernel_rfl))
  f225 := Try.func217.trans (congrArg some (by kernel_rfl))
  f266 := Try.func220.trans (congrArg some (by kernel_rfl))
  f267 := Try.func219.trans (congrArg some (by kernel_rfl))
  f314 := Try.func221.trans (congrArg some (by kernel_rfl))
  t3 := Try.underlying3
  a3 := Try.isAgg3
  z3 := Try.sizeOf3
  v3 := Try.zeroValue3
  t4 := Try.underlying4
  a4 := Try.isAgg4
  z4 := Try.sizeOf4
  v4 := Try.zeroValue4
  t5 := Try.underlying5
  a5 := Try.isAgg5
  z5 := Try.sizeOf5
  v5 := Try.zeroValue5
  t9 := Try.underlying9
  a9 := Try.isAgg9
  z9 := Try.sizeOf9
  v9 := Try.zeroValue9
  t46 := Try.underlying199
  a46 := Try.isAgg199
  z46 := Try.sizeOf199
  v46 := Try.zeroValue199
  t51 := Try.underlying174
  a51 := Try.isAgg174
  z51 := Try.sizeOf174
  v51 := Try.zeroValue174
  t146 := Try.underlying232
  a146 := Try.isAgg232
  z146 := Try.sizeOf232
  v146 := Try.zeroValue232
  g1 := by kernel_rfl
  i3 := by kernel_rfl
  i4 := by kernel_rfl
  i5 := by kernel_rfl
  i9 := by kernel_rfl
  i46 := by kernel_rfl
  i51 := by kernel_rfl
  i146 := by kernel_rfl
  m1 := by kernel_rfl
  s1_3 := fun w h => Go.Proofs.cell_of_shapedOpen_int (zero := #[.int .i64 0]) (t := 3) h (of_decide_eq_true (by kernel_rfl)) (by kernel_rfl) rfl (by kernel_rfl) (by kernel_rfl) Try.underlying3 }
end Go.Proofs
namespace Go.TV.KFnLives
open Go.Proofs.Try
noncomputable def X : Cfg := Cfg.ofG prog (by rfl) [(Go.Proofs.Try.lays144_ren.g 1, isNum)]
theorem t3 : X.T 3 = some ⟨1, 8, .int .i64, [.sc (.int .i64 0)]⟩ := by rfl
theorem t4 : X.T 4 = some ⟨1, 1, .bool, [.sc (.bool false)]⟩ := by rfl
theorem t5 : X.T 5 = some ⟨1, 1, .int .u8, [.sc (.int .u8 0)]⟩ := by rfl
theorem t9 : X.T 9 = some ⟨1, 16, .string, [.sc (.string (ByteArray.mk #[]))]⟩ := by rfl
theorem t36 : X.T 36 = some ⟨1, 24, .slice 5, [.list true 1 []]⟩ := by rfl
theorem t38 : X.T 38 = some ⟨1, 24, .slice 44, [.list true 1 []]⟩ := by rfl
theorem t39 : X.T 39 = some ⟨1, 24, .slice 50, [.list true 4 []]⟩ := by rfl
theorem t41 : X.T 41 = some ⟨2, 48, .struct [(0, 38), (1, 39)], [.list true 1 [], .list true 4 []]⟩ := by rfl
theorem t44 : X.T 44 = some ⟨1, 24, .slice 3, [.list true 1 []]⟩ := by rfl
theorem t50 : X.T 50 = some ⟨4, 56, .struct [(0, 9), (1, 3), (2, 3), (3, 44)], [.sc (.string (ByteArray.mk #[])), .sc (.int .i64 0), .sc (.int .i64 0), .list true 1 []]⟩ := by rfl
theorem t55 : X.T 55 = some ⟨1, 24, .slice 9, [.list true 1 []]⟩ := by rfl
theorem t133 : X.T 133 = some ⟨1, 8, .int .u64, [.sc (.int .u64 0)]⟩ := by rfl
theorem t137 : X.T 137 = some ⟨1, 24, .slice 133, [.list true 1 []]⟩ := by rfl
theorem t154 : X.T 154 = some ⟨1, 24, .slice 4, [.list true 1 []]⟩ := by rfl
theorem t190 : X.T 190 = some ⟨3, 40, .struct [(0, 36), (1, 3), (2, 3)], [.list true 1 [], .sc (.int .i64 0), .sc (.int .i64 0)]⟩ := by rfl
theorem t199 : X.T 199 = some ⟨1, 8, .int .u64, [.sc (.int .u64 0)]⟩ := by rfl
theorem t220 : X.T 220 = some ⟨1, 24, .slice 55, [.list true 1 []]⟩ := by rfl
end Go.TV.KFnLives
