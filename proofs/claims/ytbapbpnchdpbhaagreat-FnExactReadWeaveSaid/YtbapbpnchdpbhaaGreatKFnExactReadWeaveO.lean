/- The row, given its lift: what asks for the program alone, fact by fact. -/
import Derived.Test.YtbapbpnchdpbhaaGreatRows
import Derived.WalkKit
import Derived.ProofKit
import Derived.OpenShut
import Derived.ShutString
import Derived.ChangeOld
import Derived.Below
import Derived.Carry
import Derived.SizedLaws
import Derived.KernelRfl
import Derived.HandedShaped
import Derived.JoinedOf
namespace Go.Proofs.YtbapbpnchdpbhaaGreat.fnExactReadWeave
open Go.ChangeShapes Go.WideShapes Go.RowKit
set_option linter.unusedVariables false
theorem j0:laidOutB Tryz.prog=true:=by kernel_rfl
theorem j1:mapsRowed Tryz.prog=true:=by kernel_rfl
theorem j2:(Rows.fnExactReadWeaveRow.named == Tryz.prog.varsNamed 6)=true:=by kernel_rfl
theorem j3:(Rows.fnExactReadWeaveRow.inPlace == Tryz.prog.inPlace 6)=true:=by kernel_rfl
theorem j4:(Rows.fnExactReadWeaveRow.unfollowed == Tryz.prog.unfollowed 6)=true:=by kernel_rfl
theorem j5:(Rows.fnExactReadWeaveRow.recurses == Tryz.prog.recurses 6)=true:=by kernel_rfl
theorem j6:(Rows.fnExactReadWeaveRow.lifted == Tryz.prog.liftsFinal)=true:=by kernel_rfl
theorem j7:(Rows.fnExactReadWeaveRow.plainKeys == Tryz.prog.plainKeys)=true:=by kernel_rfl
theorem j8:Tryz.prog.stopsHeard=true:=by kernel_rfl
theorem j9:Tryz.prog.mayEnter=true:=by kernel_rfl
theorem j10:(Tryz.prog.make == some Rows.fnExactReadWeaveRow.make)=true:=by kernel_rfl
theorem closed:joinedFacts Tryz.prog 6 Tryz.f6 Rows.fnExactReadWeaveSpec Rows.fnExactReadWeaveRow=true:=by
 unfold joinedFacts
 simp only [Bool.and_eq_true]
 repeat' apply And.intro
 all_goals first | (with_reducible exact j0) | (with_reducible exact j1) | (with_reducible exact j2) | (with_reducible exact j3) | (with_reducible exact j4) | (with_reducible exact j5) | (with_reducible exact j6) | (with_reducible exact j7) | (with_reducible exact j8) | (with_reducible exact j9) | (with_reducible exact j10) | kernel_rfl
theorem inst:Tryz.f6.isInstance Tryz.prog Rows.fnExactReadWeaveRow.origin Rows.fnExactReadWeaveRow.targs:=of_decide_eq_true (by kernel_rfl)
theorem wrap:Tryz.f6.isWrapper Tryz.prog Rows.fnExactReadWeaveRow.wrapper Rows.fnExactReadWeaveRow.mainSum:=by unfold Func.isWrapper; first | (rw [if_pos (by decide +kernel)]; kernel_rfl) | (rw [if_neg (by decide +kernel)]; exact ⟨rfl,rfl⟩)
theorem nm:Tryz.prog.funcNamed Rows.fnExactReadWeaveRow.func=some 6:=by kernel_rfl
theorem over_of (lifted:∀ (os:Os) (started:os.Started) (H:Type) (enc:TypeId×Value→H),ReturnsInHanded {} Tryz.checked os 6 .any (Rows.fnExactReadWeaveSpec.pre6 enc Tryz.prog Tryz.f6 Rows.fnExactReadWeaveRow.domain false) (Rows.fnExactReadWeaveSpec.post enc Tryz.prog Tryz.f6 false true false false)):Rows.fnExactReadWeaveRow.holds Tryz.pinned (OpenSpec.ofChange Rows.fnExactReadWeaveSpec):=
 OpenClaim.holds_of_wide 6 Tryz.f6 rfl rfl rfl rfl rfl rfl rfl ⟨rfl,rfl,rfl,rfl,rfl⟩ rfl rfl rfl rfl rfl nm Tryz.func6 closed
  inst wrap (fun os started H enc _=>lifted os started H enc)
end Go.Proofs.YtbapbpnchdpbhaaGreat.fnExactReadWeave
