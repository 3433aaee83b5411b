/- The types. -/
import Derived.Test.YthfhiepgdeghpaaKFnExactReadCommitsD
import Derived.Test.YthfhiepgdeghpaaProg
set_option linter.unusedVariables false
set_option linter.unusedSimpArgs false
set_option maxHeartbeats 8000000
set_option maxRecDepth 100000
namespace Go.TV.KFnExactReadCommits
open Go.Proofs.Try
noncomputable def X : Cfg := Cfg.of prog (by rfl)
theorem t3 : X.T 3 = some ⟨1, 8, .int .i64, [.sc (.int .i64 0)]⟩ := by rfl
theorem t4 : X.T 4 = some ⟨1, 1, .bool, [.sc (.bool false)]⟩ := by rfl
theorem t5 : X.T 5 = some ⟨1, 1, .int .u8, [.sc (.int .u8 0)]⟩ := by rfl
theorem t9 : X.T 9 = some ⟨1, 16, .string, [.sc (.string (ByteArray.mk #[]))]⟩ := by rfl
theorem t22 : X.T 22 = some ⟨1, 24, .slice 85, [.list true 3 []]⟩ := by rfl
theorem t36 : X.T 36 = some ⟨1, 24, .slice 5, [.list true 1 []]⟩ := by rfl
theorem t44 : X.T 44 = some ⟨1, 24, .slice 3, [.list true 1 []]⟩ := by rfl
theorem t80 : X.T 80 = some ⟨3, 32, .struct [(0, 9), (1, 3), (2, 4)], [.sc (.string (ByteArray.mk #[])), .sc (.int .i64 0), .sc (.bool false)]⟩ := by rfl
theorem t83 : X.T 83 = some ⟨1, 24, .slice 88, [.list true 3 []]⟩ := by rfl
theorem t85 : X.T 85 = some ⟨3, 64, .struct [(0, 44), (1, 9), (2, 83)], [.list true 1 [], .sc (.string (ByteArray.mk #[])), .list true 3 []]⟩ := by rfl
theorem t88 : X.T 88 = some ⟨3, 32, .struct [(0, 9), (1, 3), (2, 3)], [.sc (.string (ByteArray.mk #[])), .sc (.int .i64 0), .sc (.int .i64 0)]⟩ := by rfl
theorem t90 : X.T 90 = some ⟨3, 32, .struct [(0, 9), (1, 3), (2, 4)], [.sc (.string (ByteArray.mk #[])), .sc (.int .i64 0), .sc (.bool false)]⟩ := by rfl
theorem t174 : X.T 174 = some ⟨1, 4, .int .u32, [.sc (.int .u32 0)]⟩ := by rfl
end Go.TV.KFnExactReadCommits
