/- The types. -/
import Derived.Test.YthfhiepgdeghpaaKFnPicksD
import Derived.Test.YthfhiepgdeghpaaProg
set_option linter.unusedVariables false
set_option linter.unusedSimpArgs false
set_option maxHeartbeats 8000000
set_option maxRecDepth 100000
namespace Go.TV.KFnPicks
open Go.Proofs.Try
noncomputable def X : Cfg := Cfg.of prog (by rfl)
theorem t3 : X.T 3 = some ⟨1, 8, .int .i64, [.sc (.int .i64 0)]⟩ := by rfl
theorem t4 : X.T 4 = some ⟨1, 1, .bool, [.sc (.bool false)]⟩ := by rfl
theorem t5 : X.T 5 = some ⟨1, 1, .int .u8, [.sc (.int .u8 0)]⟩ := by rfl
theorem t9 : X.T 9 = some ⟨1, 16, .string, [.sc (.string (ByteArray.mk #[]))]⟩ := by rfl
theorem t36 : X.T 36 = some ⟨1, 24, .slice 5, [.list true 1 []]⟩ := by rfl
theorem t38 : X.T 38 = some ⟨1, 24, .slice 44, [.list true 1 []]⟩ := by rfl
theorem t39 : X.T 39 = some ⟨1, 24, .slice 50, [.list true 4 []]⟩ := by rfl
theorem t41 : X.T 41 = some ⟨2, 48, .struct [(0, 38), (1, 39)], [.list true 1 [], .list true 4 []]⟩ := by rfl
theorem t44 : X.T 44 = some ⟨1, 24, .slice 3, [.list true 1 []]⟩ := by rfl
theorem t50 : X.T 50 = some ⟨4, 56, .struct [(0, 9), (1, 3), (2, 3), (3, 44)], [.sc (.string (ByteArray.mk #[])), .sc (.int .i64 0), .sc (.int .i64 0), .list true 1 []]⟩ := by rfl
theorem t55 : X.T 55 = some ⟨1, 24, .slice 9, [.list true 1 []]⟩ := by rfl
theorem t133 : X.T 133 = some ⟨1, 8, .int .u64, [.sc (.int .u64 0)]⟩ := by rfl
theorem t137 : X.T 137 = some ⟨1, 24, .slice 133, [.list true 1 []]⟩ := by rfl
theorem t154 : X.T 154 = some ⟨1, 24, .slice 4, [.list true 1 []]⟩ := by rfl
theorem t190 : X.T 190 = some ⟨3, 40, .struct [(0, 36), (1, 3), (2, 3)], [.list true 1 [], .sc (.int .i64 0), .sc (.int .i64 0)]⟩ := by rfl
theorem t199 : X.T 199 = some ⟨1, 8, .int .u64, [.sc (.int .u64 0)]⟩ := by rfl
theorem t202 : X.T 202 = some ⟨1, 24, .slice 154, [.list true 1 []]⟩ := by rfl
theorem t220 : X.T 220 = some ⟨1, 24, .slice 55, [.list true 1 []]⟩ := by rfl
end Go.TV.KFnPicks
