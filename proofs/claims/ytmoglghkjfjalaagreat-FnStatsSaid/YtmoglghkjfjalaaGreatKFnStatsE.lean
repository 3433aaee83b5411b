/- The types. -/
import Derived.Test.YtmoglghkjfjalaaGreatKFnStatsD
import Derived.Test.YtmoglghkjfjalaaGreatProg
import Derived.Ground.NamesProg
import Derived.Shelf.LaysM
import Derived.Shelf.Strings.Search3
set_option linter.unusedVariables false
set_option linter.unusedSimpArgs false
set_option maxHeartbeats 8000000
set_option maxRecDepth 100000
namespace Go.Proofs
open Go.Shelf
def Tryz.lays144_ren : Go.Shelf.Ren := ⟨fun | 144 => 258 | 143 => 274 | 219 => 283 | 217 => 285 | 225 => 286 | 224 => 287 | 267 => 288 | 266 => 289 | 314 => 290 | n => n, fun | 9 => 9 | 4 => 4 | 3 => 3 | 5 => 5 | 46 => 239 | 146 => 318 | 51 => 86 | n => n, fun | 1 => 0 | n => n⟩
theorem Tryz.lays144 : Go.Proofs.LaysM.n144 Tryz.prog Tryz.lays144_ren := {
  mixed := by kernel_rfl
  f143 := Tryz.func274.trans (congrArg some (by kernel_rfl))
  f144 := Tryz.func258.trans (congrArg some (by kernel_rfl))
  f217 := Tryz.func285.trans (congrArg some (by kernel_rfl))
  f219 := Tryz.func283.trans (congrArg some (by kernel_rfl))
  f224 := Tryz.func287.trans (congrArg some (by kernel_rfl))
  f225 := Tryz.func286.trans (congrArg some (by kernel_rfl))
  f266 := Tryz.func289.trans (congrArg some (by kernel_rfl))
  f267 := Tryz.func288.trans (congrArg some (by kernel_rfl))
  f314 := Tryz.func290.trans (congrArg some (by kernel_rfl))
  t3 := Tryz.underlying3
  a3 := Tryz.isAgg3
  z3 := Tryz.sizeOf3
  v3 := Tryz.zeroValue3
  t4 := Tryz.underlying4
  a4 := Tryz.isAgg4
  z4 := Tryz.sizeOf4
  v4 := Tryz.zeroValue4
  t5 := Tryz.underlying5
  a5 := Tryz.isAgg5
  z5 := Tryz.sizeOf5
  v5 := Tryz.zeroValue5
  t9 := Tryz.underlying9
  a9 := Tryz.isAgg9
  z9 := Tryz.sizeOf9
  v9 := Tryz.zeroValue9
  t46 := Tryz.underlying239
  a46 := Tryz.isAgg239
  z46 := Tryz.sizeOf239
  v46 := Tryz.zeroValue239
  t51 := Tryz.underlying86
  a51 := Tryz.isAgg86
  z51 := Tryz.sizeOf86
  v51 := Tryz.zeroValue86
  t146 := Tryz.underlying318
  a146 := Tryz.isAgg318
  z146 := Tryz.sizeOf318
  v146 := Tryz.zeroValue318
  g1 := by kernel_rfl
  i3 := by kernel_rfl
  i4 := by kernel_rfl
  i5 := by kernel_rfl
  i9 := by kernel_rfl
  i46 := by kernel_rfl
  i51 := by kernel_rfl
  i146 := by kernel_rfl
  m1 := by kernel_rfl
  s1_3 := fun w h => Go.Proofs.cell_of_shapedOpen_int (zero := #[.int .i64 0]) (t := 3) h (of_decide_eq_true (by kernel_rfl)) (by kernel_rfl) rfl (by kernel_rfl) (by kernel_rfl) Tryz.underlying3 }
end Go.Proofs
namespace Go.TV.KFnStats
open Go.Proofs.Tryz
noncomputable def X : Cfg := Cfg.ofG prog (by rfl) [(Go.Proofs.Tryz.lays144_ren.g 1, isNum)]
theorem t3 : X.T 3 = some ⟨1, 8, .int .i64, [.sc (.int .i64 0)]⟩ := by rfl
theorem t4 : X.T 4 = some ⟨1, 1, .bool, [.sc (.bool false)]⟩ := by rfl
theorem t5 : X.T 5 = some ⟨1, 1, .int .u8, [.sc (.int .u8 0)]⟩ := by rfl
theorem t9 : X.T 9 = some ⟨1, 16, .string, [.sc (.string (ByteArray.mk #[]))]⟩ := by rfl
theorem t22 : X.T 22 = some ⟨1, 24, .slice 5, [.list true 1 []]⟩ := by rfl
theorem t24 : X.T 24 = some ⟨1, 24, .slice 43, [.list true 3 []]⟩ := by rfl
theorem t25 : X.T 25 = some ⟨1, 24, .slice 36, [.list true 2 []]⟩ := by rfl
theorem t27 : X.T 27 = some ⟨2, 48, .struct [(0, 24), (1, 25)], [.list true 3 [], .list true 2 []]⟩ := by rfl
theorem t30 : X.T 30 = some ⟨6, 48, .struct [(0, 3), (1, 3), (2, 3), (3, 3), (4, 3), (5, 3)], [.sc (.int .i64 0), .sc (.int .i64 0), .sc (.int .i64 0), .sc (.int .i64 0), .sc (.int .i64 0), .sc (.int .i64 0)]⟩ := by rfl
theorem t33 : X.T 33 = some ⟨1, 24, .slice 40, [.list true 1 []]⟩ := by rfl
theorem t34 : X.T 34 = some ⟨1, 24, .slice 73, [.list true 4 []]⟩ := by rfl
theorem t36 : X.T 36 = some ⟨2, 48, .struct [(0, 33), (1, 34)], [.list true 1 [], .list true 4 []]⟩ := by rfl
theorem t37 : X.T 37 = some ⟨1, 24, .slice 9, [.list true 1 []]⟩ := by rfl
theorem t40 : X.T 40 = some ⟨1, 24, .slice 3, [.list true 1 []]⟩ := by rfl
theorem t41 : X.T 41 = some ⟨1, 24, .slice 45, [.list true 3 []]⟩ := by rfl
theorem t43 : X.T 43 = some ⟨3, 64, .struct [(0, 40), (1, 9), (2, 41)], [.list true 1 [], .sc (.string (ByteArray.mk #[])), .list true 3 []]⟩ := by rfl
theorem t45 : X.T 45 = some ⟨3, 32, .struct [(0, 9), (1, 3), (2, 3)], [.sc (.string (ByteArray.mk #[])), .sc (.int .i64 0), .sc (.int .i64 0)]⟩ := by rfl
theorem t73 : X.T 73 = some ⟨4, 56, .struct [(0, 9), (1, 3), (2, 3), (3, 40)], [.sc (.string (ByteArray.mk #[])), .sc (.int .i64 0), .sc (.int .i64 0), .list true 1 []]⟩ := by rfl
theorem t106 : X.T 106 = some ⟨1, 24, .slice 33, [.list true 1 []]⟩ := by rfl
theorem t136 : X.T 136 = some ⟨1, 8, .int .u64, [.sc (.int .u64 0)]⟩ := by rfl
theorem t137 : X.T 137 = some ⟨1, 24, .slice 136, [.list true 1 []]⟩ := by rfl
theorem t144 : X.T 144 = some ⟨1, 24, .slice 149, [.list true 4 []]⟩ := by rfl
theorem t149 : X.T 149 = some ⟨4, 64, .struct [(0, 3), (1, 9), (2, 9), (3, 37)], [.sc (.int .i64 0), .sc (.string (ByteArray.mk #[])), .sc (.string (ByteArray.mk #[])), .list true 1 []]⟩ := by rfl
theorem t192 : X.T 192 = some ⟨3, 40, .struct [(0, 22), (1, 3), (2, 3)], [.list true 1 [], .sc (.int .i64 0), .sc (.int .i64 0)]⟩ := by rfl
theorem t201 : X.T 201 = some ⟨1, 24, .slice 202, [.list true 1 []]⟩ := by rfl
theorem t202 : X.T 202 = some ⟨1, 24, .slice 4, [.list true 1 []]⟩ := by rfl
theorem t239 : X.T 239 = some ⟨1, 8, .int .u64, [.sc (.int .u64 0)]⟩ := by rfl
theorem t260 : X.T 260 = some ⟨3, 56, .struct [(0, 41), (1, 40), (2, 3)], [.list true 3 [], .list true 1 [], .sc (.int .i64 0)]⟩ := by rfl
theorem t278 : X.T 278 = some ⟨1, 24, .slice 37, [.list true 1 []]⟩ := by rfl
end Go.TV.KFnStats
