/- The row, given its lift: what asks for the program alone, fact by fact. -/
import Derived.Test.YtbapbpnchdpbhaaGreatRows
import Derived.WalkKit
import Derived.ProofKit
import Derived.OpenShut
import Derived.ShutString
import Derived.ChangeOld
import Derived.Below
import Derived.Carry
import Derived.SizedLaws
import Derived.KernelRfl
import Derived.HandedShaped
import Derived.JoinedOf
namespace Go.Proofs.YtbapbpnchdpbhaaGreat.fnWoven
open Go.ChangeShapes Go.WideShapes Go.RowKit
set_option linter.unusedVariables false
theorem j0:laidOutB Tryz.prog=true:=by kernel_rfl
theorem j1:mapsRowed Tryz.prog=true:=by kernel_rfl
theorem j2:(Rows.fnWovenRow.named == Tryz.prog.varsNamed 5)=true:=by kernel_rfl
theorem j3:(Rows.fnWovenRow.inPlace == Tryz.prog.inPlace 5)=true:=by kernel_rfl
theorem j4:(Rows.fnWovenRow.unfollowed == Tryz.prog.unfollowed 5)=true:=by kernel_rfl
theorem j5:(Rows.fnWovenRow.recurses == Tryz.prog.recurses 5)=true:=by kernel_rfl
theorem j6:(Rows.fnWovenRow.lifted == Tryz.prog.liftsFinal)=true:=by kernel_rfl
theorem j7:(Rows.fnWovenRow.plainKeys == Tryz.prog.plainKeys)=true:=by kernel_rfl
theorem j8:Tryz.prog.stopsHeard=true:=by kernel_rfl
theorem j9:Tryz.prog.mayEnter=true:=by kernel_rfl
theorem j10:(Tryz.prog.make == some Rows.fnWovenRow.make)=true:=by kernel_rfl
theorem closed:joinedFacts Tryz.prog 5 Tryz.f5 Rows.fnWovenSpec Rows.fnWovenRow=true:=by
 unfold joinedFacts
 simp only [Bool.and_eq_true]
 repeat' apply And.intro
 all_goals first | (with_reducible exact j0) | (with_reducible exact j1) | (with_reducible exact j2) | (with_reducible exact j3) | (with_reducible exact j4) | (with_reducible exact j5) | (with_reducible exact j6) | (with_reducible exact j7) | (with_reducible exact j8) | (with_reducible exact j9) | (with_reducible exact j10) | kernel_rfl
theorem inst:Tryz.f5.isInstance Tryz.prog Rows.fnWovenRow.origin Rows.fnWovenRow.targs:=of_decide_eq_true (by kernel_rfl)
theorem wrap:Tryz.f5.isWrapper Tryz.prog Rows.fnWovenRow.wrapper Rows.fnWovenRow.mainSum:=by unfold Func.isWrapper; first | (rw [if_pos (by decide +kernel)]; kernel_rfl) | (rw [if_neg (by decide +kernel)]; exact ⟨rfl,rfl⟩)
theorem nm:Tryz.prog.funcNamed Rows.fnWovenRow.func=some 5:=by kernel_rfl
theorem over_of (lifted:∀ (os:Os) (started:os.Started) (H:Type) (enc:TypeId×Value→H),ReturnsInHanded {} Tryz.checked os 5 .any (Rows.fnWovenSpec.pre6 enc Tryz.prog Tryz.f5 Rows.fnWovenRow.domain false) (Rows.fnWovenSpec.post enc Tryz.prog Tryz.f5 false true false false)):Rows.fnWovenRow.holds Tryz.pinned (OpenSpec.ofChange Rows.fnWovenSpec):=
 OpenClaim.holds_of_wide 5 Tryz.f5 rfl rfl rfl rfl rfl rfl rfl ⟨rfl,rfl,rfl,rfl,rfl⟩ rfl rfl rfl rfl rfl nm Tryz.func5 closed
  inst wrap (fun os started H enc _=>lifted os started H enc)
end Go.Proofs.YtbapbpnchdpbhaaGreat.fnWoven
