/- The types. -/
import Derived.Test.YtmoglghkjfjalaaKFnExactReadBundleD
import Derived.Test.YtmoglghkjfjalaaProg
import Derived.Ground.NamesProg
import Derived.Shelf.LaysM
import Derived.Shelf.Strings.Search3
set_option linter.unusedVariables false
set_option linter.unusedSimpArgs false
set_option maxHeartbeats 8000000
set_option maxRecDepth 100000
namespace Go.Proofs
open Go.Shelf
def Try.lays144_ren : Go.Shelf.Ren := ⟨fun | 144 => 181 | 143 => 193 | 219 => 199 | 217 => 203 | 225 => 204 | 224 => 205 | 267 => 206 | 266 => 207 | 314 => 208 | n => n, fun | 9 => 9 | 4 => 4 | 3 => 3 | 5 => 5 | 46 => 162 | 146 => 229 | 51 => 137 | n => n, fun | 1 => 0 | n => n⟩
theorem Try.lays144 : Go.Proofs.LaysM.n144 Try.prog Try.lays144_ren := {
  mixed := by kernel_rfl
  f143 := Try.func193.trans (congrArg some (by kernel_rfl))
  f144 := Try.func181.trans (congrArg some (by kernel_rfl))
  f217 := Try.func203.trans (congrArg some (by kernel_rfl))
  f219 := Try.func199.trans (congrArg some (by kernel_rfl))
  f224 := Try.func205.trans (congrArg some (by kernel_rfl))
  f225 := Try.func204.trans (congrArg some (by kernel_rfl))
  f266 := Try.func207.trans (congrArg some (by kernel_rfl))
  f267 := Try.func206.trans (congrArg some (by kernel_rfl))
  f314 := Try.func208.trans (congrArg some (by kernel_rfl))
  t3 := Try.underlying3
  a3 := Try.isAgg3
  z3 := Try.sizeOf3
  v3 := Try.zeroValue3
  t4 := Try.underlying4
  a4 := Try.isAgg4
  z4 := Try.sizeOf4
  v4 := Try.zeroValue4
  t5 := Try.underlying5
  a5 := Try.isAgg5
  z5 := Try.sizeOf5
  v5 := Try.zeroValue5
  t9 := Try.underlying9
  a9 := Try.isAgg9
  z9 := Try.sizeOf9
  v9 := Try.zeroValue9
  t46 := Try.underlying162
  a46 := Try.isAgg162
  z46 := Try.sizeOf162
  v46 := Try.zeroValue162
  t51 := Try.underlying137
  a51 := Try.isAgg137
  z51 := Try.sizeOf137
  v51 := Try.zeroValue137
  t146 := Try.underlying229
  a146 := Try.isAgg229
  z146 := Try.sizeOf229
  v146 := Try.zeroValue229
  g1 := by kernel_rfl
  i3 := by kernel_rfl
  i4 := by kernel_rfl
  i5 := by kernel_rfl
  i9 := by kernel_rfl
  i46 := by kernel_rfl
  i51 := by kernel_rfl
  i146 := by kernel_rfl
  m1 := by kernel_rfl
  s1_3 := fun w h => Go.Proofs.cell_of_shapedOpen_int (zero := #[.int .i64 0]) (t := 3) h (of_decide_eq_true (by kernel_rfl)) (by kernel_rfl) rfl (by kernel_rfl) (by kernel_rfl) Try.underlying3 }
end Go.Proofs
namespace Go.TV.KFnExactReadBundle
open Go.Proofs.Try
noncomputable def X : Cfg := Cfg.ofG prog (by rfl) [(Go.Proofs.Try.lays144_ren.g 1, isNum)]
theorem t3 : X.T 3 = some ⟨1, 8, .int .i64, [.sc (.int .i64 0)]⟩ := by rfl
theorem t4 : X.T 4 = some ⟨1, 1, .bool, [.sc (.bool false)]⟩ := by rfl
theorem t5 : X.T 5 = some ⟨1, 1, .int .u8, [.sc (.int .u8 0)]⟩ := by rfl
theorem t9 : X.T 9 = some ⟨1, 16, .string, [.sc (.string (ByteArray.mk #[]))]⟩ := by rfl
theorem t22 : X.T 22 = some ⟨1, 24, .slice 77, [.list true 3 []]⟩ := by rfl
theorem t28 : X.T 28 = some ⟨1, 24, .slice 5, [.list true 1 []]⟩ := by rfl
theorem t36 : X.T 36 = some ⟨1, 24, .slice 9, [.list true 1 []]⟩ := by rfl
theorem t43 : X.T 43 = some ⟨1, 24, .slice 3, [.list true 1 []]⟩ := by rfl
theorem t72 : X.T 72 = some ⟨3, 32, .struct [(0, 9), (1, 3), (2, 4)], [.sc (.string (ByteArray.mk #[])), .sc (.int .i64 0), .sc (.bool false)]⟩ := by rfl
theorem t75 : X.T 75 = some ⟨1, 24, .slice 80, [.list true 4 []]⟩ := by rfl
theorem t77 : X.T 77 = some ⟨3, 64, .struct [(0, 43), (1, 9), (2, 75)], [.list true 1 [], .sc (.string (ByteArray.mk #[])), .list true 4 []]⟩ := by rfl
theorem t80 : X.T 80 = some ⟨4, 64, .struct [(0, 3), (1, 9), (2, 9), (3, 36)], [.sc (.int .i64 0), .sc (.string (ByteArray.mk #[])), .sc (.string (ByteArray.mk #[])), .list true 1 []]⟩ := by rfl
theorem t83 : X.T 83 = some ⟨3, 32, .struct [(0, 9), (1, 3), (2, 4)], [.sc (.string (ByteArray.mk #[])), .sc (.int .i64 0), .sc (.bool false)]⟩ := by rfl
theorem t137 : X.T 137 = some ⟨1, 4, .int .u32, [.sc (.int .u32 0)]⟩ := by rfl
end Go.TV.KFnExactReadBundle
