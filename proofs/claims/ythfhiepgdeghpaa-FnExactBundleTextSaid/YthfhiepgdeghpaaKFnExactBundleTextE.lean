/- The types. -/
import Derived.Test.YthfhiepgdeghpaaKFnExactBundleTextD
import Derived.Test.YthfhiepgdeghpaaProg
set_option linter.unusedVariables false
set_option linter.unusedSimpArgs false
set_option maxHeartbeats 8000000
set_option maxRecDepth 100000
namespace Go.TV.KFnExactBundleText
open Go.Proofs.Try
noncomputable def X : Cfg := Cfg.of prog (by rfl)
theorem t3 : X.T 3 = some ⟨1, 8, .int .i64, [.sc (.int .i64 0)]⟩ := by rfl
theorem t4 : X.T 4 = some ⟨1, 1, .bool, [.sc (.bool false)]⟩ := by rfl
theorem t5 : X.T 5 = some ⟨1, 1, .int .u8, [.sc (.int .u8 0)]⟩ := by rfl
theorem t9 : X.T 9 = some ⟨1, 16, .string, [.sc (.string (ByteArray.mk #[]))]⟩ := by rfl
theorem t28 : X.T 28 = some ⟨1, 24, .slice 101, [.list true 3 []]⟩ := by rfl
theorem t32 : X.T 32 = some ⟨1, 24, .slice 104, [.list true 3 []]⟩ := by rfl
theorem t36 : X.T 36 = some ⟨1, 24, .slice 5, [.list true 1 []]⟩ := by rfl
theorem t44 : X.T 44 = some ⟨1, 24, .slice 3, [.list true 1 []]⟩ := by rfl
theorem t55 : X.T 55 = some ⟨1, 24, .slice 9, [.list true 1 []]⟩ := by rfl
theorem t99 : X.T 99 = some ⟨1, 24, .slice 212, [.list true 4 []]⟩ := by rfl
theorem t101 : X.T 101 = some ⟨3, 64, .struct [(0, 44), (1, 9), (2, 99)], [.list true 1 [], .sc (.string (ByteArray.mk #[])), .list true 4 []]⟩ := by rfl
theorem t102 : X.T 102 = some ⟨1, 24, .slice 108, [.list true 4 []]⟩ := by rfl
theorem t104 : X.T 104 = some ⟨3, 64, .struct [(0, 44), (1, 9), (2, 102)], [.list true 1 [], .sc (.string (ByteArray.mk #[])), .list true 4 []]⟩ := by rfl
theorem t108 : X.T 108 = some ⟨4, 64, .struct [(0, 3), (1, 9), (2, 9), (3, 55)], [.sc (.int .i64 0), .sc (.string (ByteArray.mk #[])), .sc (.string (ByteArray.mk #[])), .list true 1 []]⟩ := by rfl
theorem t113 : X.T 113 = some ⟨2, 32, .struct [(0, 111), (1, 36)], [.sc (.pointer none), .list true 1 []]⟩ := by rfl
theorem t174 : X.T 174 = some ⟨1, 4, .int .u32, [.sc (.int .u32 0)]⟩ := by rfl
theorem t212 : X.T 212 = some ⟨4, 64, .struct [(0, 3), (1, 9), (2, 9), (3, 55)], [.sc (.int .i64 0), .sc (.string (ByteArray.mk #[])), .sc (.string (ByteArray.mk #[])), .list true 1 []]⟩ := by rfl
end Go.TV.KFnExactBundleText
