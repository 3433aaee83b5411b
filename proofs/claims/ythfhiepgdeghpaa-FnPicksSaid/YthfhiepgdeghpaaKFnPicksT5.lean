/- Memory told as trees, part 5. -/
import Derived.Test.YthfhiepgdeghpaaKFnPicksT4
import Derived.WalkKit
import Derived.ProofKit
import Derived.Lib.UnsafeStr
import Derived.Lib.Walk
import Derived.Shelf.RegionOpenPlain
set_option linter.unusedVariables false
set_option linter.unusedSimpArgs false
set_option maxHeartbeats 8000000
set_option maxRecDepth 100000
/- TV, part Gc: a strings.Builder, told as its bytes. -/
namespace Go.TV
section
variable {gG : Nat → Prop} {c : Ctx gG} {e e' : Env} {a : Act} {w : World} {D : CS} {hs : Nat → Value} {S : CS} {X : Cfg} {o : Oper}
end
/-- A list of rows that is made: told for one type of row alone. -/
theorem mklR_f {α : Type} (r : α → List V) (c : List V) {n m : Int} {z : α} {l : List α} (hz : r z = c) (h : mkl n m z = some l) : ((0 ≤ n) = True) ∧ ((n ≤ m) = True) ∧ ((m ≤ 1099511627776) = True) ∧ List.replicate n.toNat c = List.map r l := by
  obtain ⟨h1, h2, h3, h4⟩ := mkl_f h
  exact ⟨h1, h2, h3, by rw [← h4, ← hz, rep_rows]⟩
end Go.TV
