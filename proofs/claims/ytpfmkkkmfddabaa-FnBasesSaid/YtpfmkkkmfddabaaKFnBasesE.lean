/- The types. -/
import Derived.Test.YtpfmkkkmfddabaaKFnBasesD
import Derived.Test.YtpfmkkkmfddabaaProg
set_option linter.unusedVariables false
set_option linter.unusedSimpArgs false
set_option maxHeartbeats 8000000
set_option maxRecDepth 100000
namespace Go.TV.KFnBases
open Go.Proofs.Try
noncomputable def X : Cfg := Cfg.of prog (by rfl)
theorem t3 : X.T 3 = some ⟨1, 8, .int .i64, [.sc (.int .i64 0)]⟩ := by rfl
theorem t4 : X.T 4 = some ⟨1, 1, .bool, [.sc (.bool false)]⟩ := by rfl
theorem t5 : X.T 5 = some ⟨1, 1, .int .u8, [.sc (.int .u8 0)]⟩ := by rfl
theorem t23 : X.T 23 = some ⟨1, 24, .slice 3, [.list true 1 []]⟩ := by rfl
theorem t32 : X.T 32 = some ⟨1, 24, .slice 5, [.list true 1 []]⟩ := by rfl
theorem t40 : X.T 40 = some ⟨1, 24, .slice 23, [.list true 1 []]⟩ := by rfl
theorem t55 : X.T 55 = some ⟨1, 8, .int .u64, [.sc (.int .u64 0)]⟩ := by rfl
theorem t56 : X.T 56 = some ⟨1, 8, .int .u64, [.sc (.int .u64 0)]⟩ := by rfl
theorem t67 : X.T 67 = some ⟨1, 24, .slice 55, [.list true 1 []]⟩ := by rfl
theorem t72 : X.T 72 = some ⟨1, 24, .slice 4, [.list true 1 []]⟩ := by rfl
theorem t80 : X.T 80 = some ⟨3, 40, .struct [(0, 32), (1, 3), (2, 3)], [.list true 1 [], .sc (.int .i64 0), .sc (.int .i64 0)]⟩ := by rfl
end Go.TV.KFnBases
