/-
  No cell of these rows narrows 'for every input' (looked for: loops, veiled, ifaces, maps, wideKeys, modest, calm, conditions, laid).
  DERIVED. THE GIVEN ROWS OF THIS SEAT. 9 by the template 'for every input the law returns true; each argument reads behind the call as it read before'; 0 by the template 'total and deterministic' (their statements: YtpfmkkkmfddabaaTotals.lean).
  GIVEN WITH THE SEED: the statements are not yours to turn. If you find one false, say at which input.
  Laid BY PROGRAM, IN A SANDBOX (cutbox-rows.mjs): the forced cells as the released guide's own fill.sh prints them over the translation aa0063bff8f708b4… (all of the seat's roots in one cut). By AI agents, Wed Nov 11 2026. No macro, syntax, notation, axiom, sorry.
-/
import Derived.Test.YtpfmkkkmfddabaaChecked
import GoSem.Claim
import GoSem.ClaimJoined
import GoSem.ClaimMapViews
import Derived.JoinedTies
import Derived.KernelRfl
namespace Go.Proofs.Ytpfmkkkmfddabaa
/- THE CELL 'sum', in the pinned program and in every row, IS THE sha256 OF THE DUMP (.gsa) THAT YtpfmkkkmfddabaaProg.lean LOADS. Nothing in Lean hashes anything: it is a label: what it is worth is what the hold of that sum in a sandbox is worth. -/
noncomputable def Try.pinned : Pinned := { name := "ytpfmkkkmfddabaa", sum := "aa0063bff8f708b4c40dea3a5ed73ccbb536106b8942b10b430d8a81fe4bced0", checked := Try.checked }
namespace Rows
def none {H : Type} : Left H := { results := [], args := [] }

/-- 'laws.FnExactListOf': WHATEVER THE INPUT: true; the input reads as it did. -/
def fnExactListOfSpec : ChangeSpec := { name := "fnExactListOf", fn := fun _ => fun
  | [d] => { results := [.lit (.bool true)], args := [d] }
  | _ => none }
def fnExactListOfRow : OpenClaim := { program := "ytpfmkkkmfddabaa", sum := "aa0063bff8f708b4c40dea3a5ed73ccbb536106b8942b10b430d8a81fe4bced0", func := "loop.example/g00073/laws.FnExactListOf", spec := "fnExactListOf", apart := false }
def FnExactListOfSaid : Prop := fnExactListOfRow.holds Try.pinned (OpenSpec.ofChange fnExactListOfSpec)

/-- ITS FALSE NEIGHBOUR: 'it returns false'. Refute it at one input. -/
def fnExactListOfWrong : ChangeSpec := { name := "fnExactListOf", fn := fun _ => fun
  | [d] => { results := [.lit (.bool false)], args := [d] }
  | _ => none }
def FnExactListOfWrongFalsely : Prop := fnExactListOfRow.holds Try.pinned (OpenSpec.ofChange fnExactListOfWrong)

/-- 'laws.FnBits': WHATEVER THE INPUT: true; the input reads as it did. -/
def fnBitsSpec : ChangeSpec := { name := "fnBits", fn := fun _ => fun
  | [d] => { results := [.lit (.bool true)], args := [d] }
  | _ => none }
def fnBitsRow : OpenClaim := { program := "ytpfmkkkmfddabaa", sum := "aa0063bff8f708b4c40dea3a5ed73ccbb536106b8942b10b430d8a81fe4bced0", func := "loop.example/g00073/laws.FnBits", spec := "fnBits", apart := false }
def FnBitsSaid : Prop := fnBitsRow.holds Try.pinned (OpenSpec.ofChange fnBitsSpec)

/-- ITS FALSE NEIGHBOUR: 'it returns false'. Refute it at one input. -/
def fnBitsWrong : ChangeSpec := { name := "fnBits", fn := fun _ => fun
  | [d] => { results := [.lit (.bool false)], args := [d] }
  | _ => none }
def FnBitsWrongFalsely : Prop := fnBitsRow.holds Try.pinned (OpenSpec.ofChange fnBitsWrong)

/-- 'laws.FnClosures': WHATEVER THE INPUT: true; the input reads as it did. -/
def fnClosuresSpec : ChangeSpec := { name := "fnClosures", fn := fun _ => fun
  | [d] => { results := [.lit (.bool true)], args := [d] }
  | _ => none }
def fnClosuresRow : OpenClaim := { program := "ytpfmkkkmfddabaa", sum := "aa0063bff8f708b4c40dea3a5ed73ccbb536106b8942b10b430d8a81fe4bced0", func := "loop.example/g00073/laws.FnClosures", spec := "fnClosures", apart := false }
def FnClosuresSaid : Prop := fnClosuresRow.holds Try.pinned (OpenSpec.ofChange fnClosuresSpec)

/-- ITS FALSE NEIGHBOUR: 'it returns false'. Refute it at one input. -/
def fnClosuresWrong : ChangeSpec := { name := "fnClosures", fn := fun _ => fun
  | [d] => { results := [.lit (.bool false)], args := [d] }
  | _ => none }
def FnClosuresWrongFalsely : Prop := fnClosuresRow.holds Try.pinned (OpenSpec.ofChange fnClosuresWrong)

/-- 'laws.FnExactClosureOf': WHATEVER THE INPUT: true; the input reads as it did. -/
def fnExactClosureOfSpec : ChangeSpec := { name := "fnExactClosureOf", fn := fun _ => fun
  | [d1, d2] => { results := [.lit (.bool true)], args := [d1, d2] }
  | _ => none }
def fnExactClosureOfRow : OpenClaim := { program := "ytpfmkkkmfddabaa", sum := "aa0063bff8f708b4c40dea3a5ed73ccbb536106b8942b10b430d8a81fe4bced0", func := "loop.example/g00073/laws.FnExactClosureOf", spec := "fnExactClosureOf", apart := false }
def FnExactClosureOfSaid : Prop := fnExactClosureOfRow.holds Try.pinned (OpenSpec.ofChange fnExactClosureOfSpec)

/-- ITS FALSE NEIGHBOUR: 'it returns false'. Refute it at one input. -/
def fnExactClosureOfWrong : ChangeSpec := { name := "fnExactClosureOf", fn := fun _ => fun
  | [d1, d2] => { results := [.lit (.bool false)], args := [d1, d2] }
  | _ => none }
def FnExactClosureOfWrongFalsely : Prop := fnExactClosureOfRow.holds Try.pinned (OpenSpec.ofChange fnExactClosureOfWrong)

/-- 'laws.FnExactCommons': WHATEVER THE INPUT: true; the input reads as it did. -/
def fnExactCommonsSpec : ChangeSpec := { name := "fnExactCommons", fn := fun _ => fun
  | [d1, d2, d3] => { results := [.lit (.bool true)], args := [d1, d2, d3] }
  | _ => none }
def fnExactCommonsRow : OpenClaim := { program := "ytpfmkkkmfddabaa", sum := "aa0063bff8f708b4c40dea3a5ed73ccbb536106b8942b10b430d8a81fe4bced0", func := "loop.example/g00073/laws.FnExactCommons", spec := "fnExactCommons", apart := false }
def FnExactCommonsSaid : Prop := fnExactCommonsRow.holds Try.pinned (OpenSpec.ofChange fnExactCommonsSpec)

/-- ITS FALSE NEIGHBOUR: 'it returns false'. Refute it at one input. -/
def fnExactCommonsWrong : ChangeSpec := { name := "fnExactCommons", fn := fun _ => fun
  | [d1, d2, d3] => { results := [.lit (.bool false)], args := [d1, d2, d3] }
  | _ => none }
def FnExactCommonsWrongFalsely : Prop := fnExactCommonsRow.holds Try.pinned (OpenSpec.ofChange fnExactCommonsWrong)

/-- 'laws.FnExactProperOf': WHATEVER THE INPUT: true; the input reads as it did. -/
def fnExactProperOfSpec : ChangeSpec := { name := "fnExactProperOf", fn := fun _ => fun
  | [d1, d2] => { results := [.lit (.bool true)], args := [d1, d2] }
  | _ => none }
def fnExactProperOfRow : OpenClaim := { program := "ytpfmkkkmfddabaa", sum := "aa0063bff8f708b4c40dea3a5ed73ccbb536106b8942b10b430d8a81fe4bced0", func := "loop.example/g00073/laws.FnExactProperOf", spec := "fnExactProperOf", apart := false }
def FnExactProperOfSaid : Prop := fnExactProperOfRow.holds Try.pinned (OpenSpec.ofChange fnExactProperOfSpec)

/-- ITS FALSE NEIGHBOUR: 'it returns false'. Refute it at one input. -/
def fnExactProperOfWrong : ChangeSpec := { name := "fnExactProperOf", fn := fun _ => fun
  | [d1, d2] => { results := [.lit (.bool false)], args := [d1, d2] }
  | _ => none }
def FnExactProperOfWrongFalsely : Prop := fnExactProperOfRow.holds Try.pinned (OpenSpec.ofChange fnExactProperOfWrong)

/-- 'laws.FnTips': WHATEVER THE INPUT: true; the input reads as it did. -/
def fnTipsSpec : ChangeSpec := { name := "fnTips", fn := fun _ => fun
  | [d] => { results := [.lit (.bool true)], args := [d] }
  | _ => none }
def fnTipsRow : OpenClaim := { program := "ytpfmkkkmfddabaa", sum := "aa0063bff8f708b4c40dea3a5ed73ccbb536106b8942b10b430d8a81fe4bced0", func := "loop.example/g00073/laws.FnTips", spec := "fnTips", apart := false }
def FnTipsSaid : Prop := fnTipsRow.holds Try.pinned (OpenSpec.ofChange fnTipsSpec)

/-- ITS FALSE NEIGHBOUR: 'it returns false'. Refute it at one input. -/
def fnTipsWrong : ChangeSpec := { name := "fnTips", fn := fun _ => fun
  | [d] => { results := [.lit (.bool false)], args := [d] }
  | _ => none }
def FnTipsWrongFalsely : Prop := fnTipsRow.holds Try.pinned (OpenSpec.ofChange fnTipsWrong)

/-- 'laws.FnBases': WHATEVER THE INPUT: true; the input reads as it did. -/
def fnBasesSpec : ChangeSpec := { name := "fnBases", fn := fun _ => fun
  | [d] => { results := [.lit (.bool true)], args := [d] }
  | _ => none }
def fnBasesRow : OpenClaim := { program := "ytpfmkkkmfddabaa", sum := "aa0063bff8f708b4c40dea3a5ed73ccbb536106b8942b10b430d8a81fe4bced0", func := "loop.example/g00073/laws.FnBases", spec := "fnBases", unfollowed := true, recurses := true, apart := false }
def FnBasesSaid : Prop := fnBasesRow.holds Try.pinned (OpenSpec.ofChange fnBasesSpec)

/-- ITS FALSE NEIGHBOUR: 'it returns false'. Refute it at one input. -/
def fnBasesWrong : ChangeSpec := { name := "fnBases", fn := fun _ => fun
  | [d] => { results := [.lit (.bool false)], args := [d] }
  | _ => none }
def FnBasesWrongFalsely : Prop := fnBasesRow.holds Try.pinned (OpenSpec.ofChange fnBasesWrong)

/-- 'laws.FnExactBases': WHATEVER THE INPUT: true; the input reads as it did. -/
def fnExactBasesSpec : ChangeSpec := { name := "fnExactBases", fn := fun _ => fun
  | [d1, d2, d3] => { results := [.lit (.bool true)], args := [d1, d2, d3] }
  | _ => none }
def fnExactBasesRow : OpenClaim := { program := "ytpfmkkkmfddabaa", sum := "aa0063bff8f708b4c40dea3a5ed73ccbb536106b8942b10b430d8a81fe4bced0", func := "loop.example/g00073/laws.FnExactBases", spec := "fnExactBases", unfollowed := true, recurses := true, apart := false }
def FnExactBasesSaid : Prop := fnExactBasesRow.holds Try.pinned (OpenSpec.ofChange fnExactBasesSpec)

/-- ITS FALSE NEIGHBOUR: 'it returns false'. Refute it at one input. -/
def fnExactBasesWrong : ChangeSpec := { name := "fnExactBases", fn := fun _ => fun
  | [d1, d2, d3] => { results := [.lit (.bool false)], args := [d1, d2, d3] }
  | _ => none }
def FnExactBasesWrongFalsely : Prop := fnExactBasesRow.holds Try.pinned (OpenSpec.ofChange fnExactBasesWrong)

/- THE SECOND FORM. 'bulk': how many values and letters a reading holds, each counted each time it is reached (what is shared counts as often as it is met; a slice's spare places count too). A statement '..UptoSaid' is the law's where the arguments, and the package variables that the reading takes, are together of bulk at most 1048576: NARROWER than '..Said'. Prove '..Said' where nothing that the law and all that it calls make is longer than what came in: it says more and counts as full. Else prove '..UptoSaid'. A law counts once. -/
mutual
def uptoBulk {H : Type} : DataW H → Nat
  | .lit (.string bytes) => bytes.length + 1
  | .lit _ => 1
  | .nil => 1
  | .ptr d => uptoBulk d + 1
  | .slice elems spare => uptoBulkAll elems + uptoBulkAll spare + 1
  | .agg parts => uptoBulkAll parts + 1
  | .iface _ d => uptoBulk d + 1
  | .map entries => uptoBulkEntries entries + 1
  | .held _ => 1
def uptoBulkAll {H : Type} : List (DataW H) → Nat
  | [] => 0
  | d :: r => uptoBulk d + uptoBulkAll r
def uptoBulkEntries {H : Type} : List (Lit × DataW H) → Nat
  | [] => 0
  | x :: r => uptoBulkEntry x + uptoBulkEntries r
def uptoBulkEntry {H : Type} : Lit × DataW H → Nat
  | (.string bytes, d) => bytes.length + uptoBulk d + 1
  | (_, d) => uptoBulk d + 1
 end
def uptoSmall : (H : Type) → List (DataW H) → Bool := fun _ ds => decide (uptoBulkAll ds ≤ 1048576)
def OpenSpec.upto (s : _root_.Go.ChangeSpec) : _root_.Go.OpenSpec := { _root_.Go.OpenSpec.ofChange s with cond := some uptoSmall }

/-- 'laws.FnExactListOf', WHERE WHAT IT READS IS OF BULK AT MOST 1048576: true; the input reads as it did. -/
def fnExactListOfUptoRow : OpenClaim := { program := "ytpfmkkkmfddabaa", sum := "aa0063bff8f708b4c40dea3a5ed73ccbb536106b8942b10b430d8a81fe4bced0", func := "loop.example/g00073/laws.FnExactListOf", spec := "fnExactListOf", apart := false, narrowed := true }
def FnExactListOfUptoSaid : Prop := fnExactListOfUptoRow.holds Try.pinned (OpenSpec.upto fnExactListOfSpec)

/-- 'laws.FnBits', WHERE WHAT IT READS IS OF BULK AT MOST 1048576: true; the input reads as it did. -/
def fnBitsUptoRow : OpenClaim := { program := "ytpfmkkkmfddabaa", sum := "aa0063bff8f708b4c40dea3a5ed73ccbb536106b8942b10b430d8a81fe4bced0", func := "loop.example/g00073/laws.FnBits", spec := "fnBits", apart := false, narrowed := true }
def FnBitsUptoSaid : Prop := fnBitsUptoRow.holds Try.pinned (OpenSpec.upto fnBitsSpec)

/-- 'laws.FnClosures', WHERE WHAT IT READS IS OF BULK AT MOST 1048576: true; the input reads as it did. -/
def fnClosuresUptoRow : OpenClaim := { program := "ytpfmkkkmfddabaa", sum := "aa0063bff8f708b4c40dea3a5ed73ccbb536106b8942b10b430d8a81fe4bced0", func := "loop.example/g00073/laws.FnClosures", spec := "fnClosures", apart := false, narrowed := true }
def FnClosuresUptoSaid : Prop := fnClosuresUptoRow.holds Try.pinned (OpenSpec.upto fnClosuresSpec)

/-- 'laws.FnExactClosureOf', WHERE WHAT IT READS IS OF BULK AT MOST 1048576: true; the input reads as it did. -/
def fnExactClosureOfUptoRow : OpenClaim := { program := "ytpfmkkkmfddabaa", sum := "aa0063bff8f708b4c40dea3a5ed73ccbb536106b8942b10b430d8a81fe4bced0", func := "loop.example/g00073/laws.FnExactClosureOf", spec := "fnExactClosureOf", apart := false, narrowed := true }
def FnExactClosureOfUptoSaid : Prop := fnExactClosureOfUptoRow.holds Try.pinned (OpenSpec.upto fnExactClosureOfSpec)

/-- 'laws.FnExactCommons', WHERE WHAT IT READS IS OF BULK AT MOST 1048576: true; the input reads as it did. -/
def fnExactCommonsUptoRow : OpenClaim := { program := "ytpfmkkkmfddabaa", sum := "aa0063bff8f708b4c40dea3a5ed73ccbb536106b8942b10b430d8a81fe4bced0", func := "loop.example/g00073/laws.FnExactCommons", spec := "fnExactCommons", apart := false, narrowed := true }
def FnExactCommonsUptoSaid : Prop := fnExactCommonsUptoRow.holds Try.pinned (OpenSpec.upto fnExactCommonsSpec)

/-- 'laws.FnExactProperOf', WHERE WHAT IT READS IS OF BULK AT MOST 1048576: true; the input reads as it did. -/
def fnExactProperOfUptoRow : OpenClaim := { program := "ytpfmkkkmfddabaa", sum := "aa0063bff8f708b4c40dea3a5ed73ccbb536106b8942b10b430d8a81fe4bced0", func := "loop.example/g00073/laws.FnExactProperOf", spec := "fnExactProperOf", apart := false, narrowed := true }
def FnExactProperOfUptoSaid : Prop := fnExactProperOfUptoRow.holds Try.pinned (OpenSpec.upto fnExactProperOfSpec)

/-- 'laws.FnTips', WHERE WHAT IT READS IS OF BULK AT MOST 1048576: true; the input reads as it did. -/
def fnTipsUptoRow : OpenClaim := { program := "ytpfmkkkmfddabaa", sum := "aa0063bff8f708b4c40dea3a5ed73ccbb536106b8942b10b430d8a81fe4bced0", func := "loop.example/g00073/laws.FnTips", spec := "fnTips", apart := false, narrowed := true }
def FnTipsUptoSaid : Prop := fnTipsUptoRow.holds Try.pinned (OpenSpec.upto fnTipsSpec)

/-- 'laws.FnBases', WHERE WHAT IT READS IS OF BULK AT MOST 1048576: true; the input reads as it did. -/
def fnBasesUptoRow : OpenClaim := { program := "ytpfmkkkmfddabaa", sum := "aa0063bff8f708b4c40dea3a5ed73ccbb536106b8942b10b430d8a81fe4bced0", func := "loop.example/g00073/laws.FnBases", spec := "fnBases", unfollowed := true, recurses := true, apart := false, narrowed := true }
def FnBasesUptoSaid : Prop := fnBasesUptoRow.holds Try.pinned (OpenSpec.upto fnBasesSpec)

/-- 'laws.FnExactBases', WHERE WHAT IT READS IS OF BULK AT MOST 1048576: true; the input reads as it did. -/
def fnExactBasesUptoRow : OpenClaim := { program := "ytpfmkkkmfddabaa", sum := "aa0063bff8f708b4c40dea3a5ed73ccbb536106b8942b10b430d8a81fe4bced0", func := "loop.example/g00073/laws.FnExactBases", spec := "fnExactBases", unfollowed := true, recurses := true, apart := false, narrowed := true }
def FnExactBasesUptoSaid : Prop := fnExactBasesUptoRow.holds Try.pinned (OpenSpec.upto fnExactBasesSpec)

end Rows
end Go.Proofs.Ytpfmkkkmfddabaa
