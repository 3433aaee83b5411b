/- The types. -/
import Derived.Test.YthfhiepgdeghpaaDoorKFnIntentsD
import Derived.Test.YthfhiepgdeghpaaDoorProg
set_option linter.unusedVariables false
set_option linter.unusedSimpArgs false
set_option maxHeartbeats 8000000
set_option maxRecDepth 100000
namespace Go.TV.KFnIntents
open Go.Proofs.Tryd
noncomputable def X : Cfg := Cfg.of prog (by rfl)
theorem t2 : X.T 2 = some ⟨1, 8, .int .i64, [.sc (.int .i64 0)]⟩ := by rfl
theorem t3 : X.T 3 = some ⟨1, 8, .int .i64, [.sc (.int .i64 0)]⟩ := by rfl
theorem t4 : X.T 4 = some ⟨1, 1, .bool, [.sc (.bool false)]⟩ := by rfl
theorem t5 : X.T 5 = some ⟨1, 1, .int .u8, [.sc (.int .u8 0)]⟩ := by rfl
theorem t9 : X.T 9 = some ⟨1, 16, .string, [.sc (.string (ByteArray.mk #[]))]⟩ := by rfl
theorem t22 : X.T 22 = some ⟨1, 24, .slice 9, [.list true 1 []]⟩ := by rfl
theorem t36 : X.T 36 = some ⟨1, 24, .slice 5, [.list true 1 []]⟩ := by rfl
theorem t41 : X.T 41 = some ⟨1, 24, .slice 3, [.list true 1 []]⟩ := by rfl
theorem t48 : X.T 48 = some ⟨2, 32, .struct [(0, 46), (1, 36)], [.sc (.pointer none), .list true 1 []]⟩ := by rfl
theorem t62 : X.T 62 = some ⟨3, 32, .struct [(0, 9), (1, 3), (2, 4)], [.sc (.string (ByteArray.mk #[])), .sc (.int .i64 0), .sc (.bool false)]⟩ := by rfl
theorem t76 : X.T 76 = some ⟨1, 4, .int .u32, [.sc (.int .u32 0)]⟩ := by rfl
theorem t87 : X.T 87 = some ⟨3, 40, .struct [(0, 36), (1, 3), (2, 3)], [.list true 1 [], .sc (.int .i64 0), .sc (.int .i64 0)]⟩ := by rfl
end Go.TV.KFnIntents
