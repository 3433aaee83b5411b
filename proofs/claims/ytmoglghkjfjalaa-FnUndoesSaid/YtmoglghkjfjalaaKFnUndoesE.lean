/- The types. -/
import Derived.Test.YtmoglghkjfjalaaKFnUndoesD
import Derived.Test.YtmoglghkjfjalaaProg
set_option linter.unusedVariables false
set_option linter.unusedSimpArgs false
set_option maxHeartbeats 8000000
set_option maxRecDepth 100000
namespace Go.TV.KFnUndoes
open Go.Proofs.Try
noncomputable def X : Cfg := Cfg.of prog (by rfl)
theorem t3 : X.T 3 = some ⟨1, 8, .int .i64, [.sc (.int .i64 0)]⟩ := by rfl
theorem t4 : X.T 4 = some ⟨1, 1, .bool, [.sc (.bool false)]⟩ := by rfl
theorem t5 : X.T 5 = some ⟨1, 1, .int .u8, [.sc (.int .u8 0)]⟩ := by rfl
theorem t9 : X.T 9 = some ⟨1, 16, .string, [.sc (.string (ByteArray.mk #[]))]⟩ := by rfl
theorem t28 : X.T 28 = some ⟨1, 24, .slice 5, [.list true 1 []]⟩ := by rfl
theorem t30 : X.T 30 = some ⟨1, 24, .slice 43, [.list true 1 []]⟩ := by rfl
theorem t31 : X.T 31 = some ⟨1, 24, .slice 110, [.list true 4 []]⟩ := by rfl
theorem t33 : X.T 33 = some ⟨2, 48, .struct [(0, 30), (1, 31)], [.list true 1 [], .list true 4 []]⟩ := by rfl
theorem t36 : X.T 36 = some ⟨1, 24, .slice 9, [.list true 1 []]⟩ := by rfl
theorem t43 : X.T 43 = some ⟨1, 24, .slice 3, [.list true 1 []]⟩ := by rfl
theorem t105 : X.T 105 = some ⟨1, 8, .int .u64, [.sc (.int .u64 0)]⟩ := by rfl
theorem t106 : X.T 106 = some ⟨1, 24, .slice 105, [.list true 1 []]⟩ := by rfl
theorem t110 : X.T 110 = some ⟨4, 56, .struct [(0, 9), (1, 3), (2, 3), (3, 43)], [.sc (.string (ByteArray.mk #[])), .sc (.int .i64 0), .sc (.int .i64 0), .list true 1 []]⟩ := by rfl
theorem t115 : X.T 115 = some ⟨1, 24, .slice 4, [.list true 1 []]⟩ := by rfl
theorem t152 : X.T 152 = some ⟨3, 40, .struct [(0, 28), (1, 3), (2, 3)], [.list true 1 [], .sc (.int .i64 0), .sc (.int .i64 0)]⟩ := by rfl
theorem t159 : X.T 159 = some ⟨1, 24, .slice 115, [.list true 1 []]⟩ := by rfl
theorem t162 : X.T 162 = some ⟨1, 8, .int .u64, [.sc (.int .u64 0)]⟩ := by rfl
theorem t195 : X.T 195 = some ⟨1, 24, .slice 36, [.list true 1 []]⟩ := by rfl
end Go.TV.KFnUndoes
