/- The types. -/
import Derived.Test.YtmoglghkjfjalaaKFnExactStatsOfD
import Derived.Test.YtmoglghkjfjalaaProg
import Derived.Ground.NamesProg
import Derived.Shelf.LaysM
import Derived.Shelf.Strings.Search3
set_option linter.unusedVariables false
set_option linter.unusedSimpArgs false
set_option maxHeartbeats 8000000
set_option maxRecDepth 100000
namespace Go.Proofs
open Go.Shelf
def Try.lays144_ren : Go.Shelf.Ren := ⟨fun | 144 => 181 | 143 => 193 | 219 => 199 | 217 => 203 | 225 => 204 | 224 => 205 | 267 => 206 | 266 => 207 | 314 => 208 | n => n, fun | 9 => 9 | 4 => 4 | 3 => 3 | 5 => 5 | 46 => 162 | 146 => 229 | 51 => 137 | n => n, fun | 1 => 0 | n => n⟩
theorem Try.lays144 : Go.Proofs.LaysM.n144 Try.prog Try.lays144_ren := {
  mixed := by kernel_rfl
  f143 := Try.func193.trans (congrArg some (by kernel_rfl))
  f144 := Try.func181.trans (congrArg some (by kernel_rfl))
  f217 := Try.func203.trans (congrArg some (by kernel_rfl))
  f219 := Try.func199.trans (congrArg some (by kernel_rfl))
  f224 := Try.func205.trans (congrArg some (by kernel_rfl))
  f225 := Try.func204.trans (congrArg some (by kernel_rfl))
  f266 := Try.func207.trans (congrArg some (by kernel_rfl))
  f267 := Try.func206.trans (congrArg some (by kernel_rfl))
  f314 := Try.func208.trans (congrArg some (by kernel_rfl))
  t3 := Try.underlying3
  a3 := Try.isAgg3
  z3 := Try.sizeOf3
  v3 := Try.zeroValue3
  t4 := Try.underlying4
  a4 := Try.isAgg4
  z4 := Try.sizeOf4
  v4 := Try.zeroValue4
  t5 := Try.underlying5
  a5 := Try.isAgg5
  z5 := Try.sizeOf5
  v5 := Try.zeroValue5
  t9 := Try.underlying9
  a9 := Try.isAgg9
  z9 := Try.sizeOf9
  v9 := Try.zeroValue9
  t46 := Try.underlying162
  a46 := Try.isAgg162
  z46 := Try.sizeOf162
  v46 := Try.zeroValue162
  t51 := Try.underlying137
  a51 := Try.isAgg137
  z51 := Try.sizeOf137
  v51 := Try.zeroValue137
  t146 := Try.underlying229
  a146 := Try.isAgg229
  z146 := Try.sizeOf229
  v146 := Try.zeroValue229
  g1 := by kernel_rfl
  i3 := by kernel_rfl
  i4 := by kernel_rfl
  i5 := by kernel_rfl
  i9 := by kernel_rfl
  i46 := by kernel_rfl
  i51 := by kernel_rfl
  i146 := by kernel_rfl
  m1 := by kernel_rfl
  s1_3 := fun w h => Go.Proofs.cell_of_shapedOpen_int (zero := #[.int .i64 0]) (t := 3) h (of_decide_eq_true (by kernel_rfl)) (by kernel_rfl) rfl (by kernel_rfl) (by kernel_rfl) Try.underlying3 }
end Go.Proofs
namespace Go.TV.KFnExactStatsOf
open Go.Proofs.Try
noncomputable def X : Cfg := Cfg.ofG prog (by rfl) [(Go.Proofs.Try.lays144_ren.g 1, isNum)]
theorem t3 : X.T 3 = some ⟨1, 8, .int .i64, [.sc (.int .i64 0)]⟩ := by rfl
theorem t4 : X.T 4 = some ⟨1, 1, .bool, [.sc (.bool false)]⟩ := by rfl
theorem t5 : X.T 5 = some ⟨1, 1, .int .u8, [.sc (.int .u8 0)]⟩ := by rfl
theorem t9 : X.T 9 = some ⟨1, 16, .string, [.sc (.string (ByteArray.mk #[]))]⟩ := by rfl
theorem t30 : X.T 30 = some ⟨1, 24, .slice 43, [.list true 1 []]⟩ := by rfl
theorem t31 : X.T 31 = some ⟨1, 24, .slice 110, [.list true 4 []]⟩ := by rfl
theorem t33 : X.T 33 = some ⟨2, 48, .struct [(0, 30), (1, 31)], [.list true 1 [], .list true 4 []]⟩ := by rfl
theorem t36 : X.T 36 = some ⟨1, 24, .slice 9, [.list true 1 []]⟩ := by rfl
theorem t43 : X.T 43 = some ⟨1, 24, .slice 3, [.list true 1 []]⟩ := by rfl
theorem t51 : X.T 51 = some ⟨1, 24, .slice 174, [.list true 3 []]⟩ := by rfl
theorem t52 : X.T 52 = some ⟨1, 24, .slice 178, [.list true 2 []]⟩ := by rfl
theorem t54 : X.T 54 = some ⟨2, 48, .struct [(0, 51), (1, 52)], [.list true 3 [], .list true 2 []]⟩ := by rfl
theorem t57 : X.T 57 = some ⟨6, 48, .struct [(0, 3), (1, 3), (2, 3), (3, 3), (4, 3), (5, 3)], [.sc (.int .i64 0), .sc (.int .i64 0), .sc (.int .i64 0), .sc (.int .i64 0), .sc (.int .i64 0), .sc (.int .i64 0)]⟩ := by rfl
theorem t60 : X.T 60 = some ⟨1, 24, .slice 183, [.list true 3 []]⟩ := by rfl
theorem t61 : X.T 61 = some ⟨1, 24, .slice 33, [.list true 2 []]⟩ := by rfl
theorem t63 : X.T 63 = some ⟨2, 48, .struct [(0, 60), (1, 61)], [.list true 3 [], .list true 2 []]⟩ := by rfl
theorem t105 : X.T 105 = some ⟨1, 8, .int .u64, [.sc (.int .u64 0)]⟩ := by rfl
theorem t106 : X.T 106 = some ⟨1, 24, .slice 105, [.list true 1 []]⟩ := by rfl
theorem t110 : X.T 110 = some ⟨4, 56, .struct [(0, 9), (1, 3), (2, 3), (3, 43)], [.sc (.string (ByteArray.mk #[])), .sc (.int .i64 0), .sc (.int .i64 0), .list true 1 []]⟩ := by rfl
theorem t115 : X.T 115 = some ⟨1, 24, .slice 4, [.list true 1 []]⟩ := by rfl
theorem t159 : X.T 159 = some ⟨1, 24, .slice 115, [.list true 1 []]⟩ := by rfl
theorem t162 : X.T 162 = some ⟨1, 8, .int .u64, [.sc (.int .u64 0)]⟩ := by rfl
theorem t172 : X.T 172 = some ⟨1, 24, .slice 216, [.list true 3 []]⟩ := by rfl
theorem t174 : X.T 174 = some ⟨3, 64, .struct [(0, 43), (1, 9), (2, 172)], [.list true 1 [], .sc (.string (ByteArray.mk #[])), .list true 3 []]⟩ := by rfl
theorem t176 : X.T 176 = some ⟨1, 24, .slice 218, [.list true 4 []]⟩ := by rfl
theorem t178 : X.T 178 = some ⟨2, 48, .struct [(0, 30), (1, 176)], [.list true 1 [], .list true 4 []]⟩ := by rfl
theorem t181 : X.T 181 = some ⟨1, 24, .slice 204, [.list true 3 []]⟩ := by rfl
theorem t183 : X.T 183 = some ⟨3, 64, .struct [(0, 43), (1, 9), (2, 181)], [.list true 1 [], .sc (.string (ByteArray.mk #[])), .list true 3 []]⟩ := by rfl
theorem t187 : X.T 187 = some ⟨1, 24, .slice 30, [.list true 1 []]⟩ := by rfl
theorem t204 : X.T 204 = some ⟨3, 32, .struct [(0, 9), (1, 3), (2, 3)], [.sc (.string (ByteArray.mk #[])), .sc (.int .i64 0), .sc (.int .i64 0)]⟩ := by rfl
theorem t216 : X.T 216 = some ⟨3, 32, .struct [(0, 9), (1, 3), (2, 3)], [.sc (.string (ByteArray.mk #[])), .sc (.int .i64 0), .sc (.int .i64 0)]⟩ := by rfl
theorem t218 : X.T 218 = some ⟨4, 56, .struct [(0, 9), (1, 3), (2, 3), (3, 43)], [.sc (.string (ByteArray.mk #[])), .sc (.int .i64 0), .sc (.int .i64 0), .list true 1 []]⟩ := by rfl
end Go.TV.KFnExactStatsOf
