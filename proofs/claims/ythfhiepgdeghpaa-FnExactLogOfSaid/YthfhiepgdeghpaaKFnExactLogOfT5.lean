/- Memory told as trees, part 5. -/
import Derived.Test.YthfhiepgdeghpaaKFnExactLogOfT4
import Derived.WalkKit
import Derived.ProofKit
import Derived.Lib.UnsafeStr
import Derived.Lib.Walk
import Derived.Shelf.RegionOpenPlain
import Derived.Lib.IndexMore
set_option linter.unusedVariables false
set_option linter.unusedSimpArgs false
set_option maxHeartbeats 8000000
set_option maxRecDepth 100000
/- TV, part Gc: a strings.Builder, told as its bytes. -/
namespace Go.TV
section
variable {gG : Nat → Prop} {c : Ctx gG} {e e' : Env} {a : Act} {w : World} {D : CS} {hs : Nat → Value} {S : CS} {X : Cfg} {o : Oper}
end
/-- A list of rows that is made: told for one type of row alone. -/
theorem mklR_f {α : Type} (r : α → List V) (c : List V) {n m : Int} {z : α} {l : List α} (hz : r z = c) (h : mkl n m z = some l) : ((0 ≤ n) = True) ∧ ((n ≤ m) = True) ∧ ((m ≤ 1099511627776) = True) ∧ List.replicate n.toNat c = List.map r l := by
  obtain ⟨h1, h2, h3, h4⟩ := mkl_f h
  exact ⟨h1, h2, h3, by rw [← h4, ← hz, rep_rows]⟩
end Go.TV
/- TV, part Ge: functions of the library that are told by the library's own contracts. -/
namespace Go.TV
/-- The configuration of a program of which a package-level variable holds a number. -/
def Cfg.ofG (P : Program) (h : P.follows .mixedOrders = true) (g : Nat) : Cfg := { Cfg.of P h with G := fun b => b = g }
/-- A function of two texts that answers whether. -/
theorem Fn_pureB {X : Cfg} {f : Nat} {s x : ByteArray} {b : Bool} (hex : ∃ fn, X.P.funcs[f]? = some fn ∧ fn.body.isSome = true ∧ (fn.name == "runtime.NumGoroutine") = false)
    (hc : ∀ w : World, (∀ g, X.G g → ∃ m, w.cell? (ad g 0) = some (.int .i64 m)) → Calls X.P f #[.string s, .string x] w fun e w' => e = .returned (.bool b) ∧ w' = w) :
    Fn X f [.one (.sc (.string s)), .one (.sc (.string x))] [.one (.sc (.bool b))] [] := by
  refine ⟨hex, fun w D S us fl ha hr hj hD hg => ?_⟩
  obtain ⟨u0, us1, fl1, rfl, rfl, u1, us2, fl2, rfl, rfl, rfl, rfl⟩ := ha
  obtain ⟨y0, S0, S1, hy0, hx0, ⟨y1, S2, S3, hy1, hx1, hS3, hd1, rfl⟩, hd0, rfl⟩ := hr
  simp only [List.getElem?_cons_zero, Option.some.injEq] at hy0
  simp only [Nat.zero_add, List.getElem?_cons_succ, List.getElem?_cons_zero, Option.some.injEq] at hy1
  subst hy0 hy1
  obtain ⟨rfl, _, rfl⟩ := hx0
  obtain ⟨rfl, _, rfl⟩ := hx1
  obtain rfl : S3 = emp := hS3
  refine (hc w (fun g q => (hg g q).2.2.2)).mono ?_
  rintro en w' ⟨rfl, rfl⟩
  refine ⟨_, [.bool b], D, emp, emp, rfl, ⟨_, _, _, rfl, rfl, rfl, rfl⟩, ⟨_, emp, emp, rfl, ⟨rfl, rfl, rfl⟩, rfl, emp_dj _, (cup_emp emp).symm⟩, rfl, emp_dj _, ?_, Frm.refl _ _, ?_, sub_refl D, fun _ _ h => .inl h, hD⟩
  · rw [emp_cup]
    exact emp_dj _
  · intro y o q
    rw [emp_cup] at q
    exact q.elim
end Go.TV
