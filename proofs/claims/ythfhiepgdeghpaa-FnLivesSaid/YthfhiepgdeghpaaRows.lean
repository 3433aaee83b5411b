/-
  No cell of these rows narrows 'for every input' (looked for: loops, veiled, ifaces, maps, wideKeys, modest, calm, conditions, laid).
  DERIVED. THE GIVEN ROWS OF THIS SEAT. 9 by the template 'for every input the law returns true; each argument reads behind the call as it read before'; 0 by the template 'total and deterministic' (their statements: YthfhiepgdeghpaaTotals.lean).
  GIVEN WITH THE SEED: the statements are not yours to turn. If you find one false, say at which input.
  Laid BY PROGRAM, IN A SANDBOX (cutbox-rows.mjs): the forced cells as the released guide's own fill.sh prints them over the translation 791548c75f7282f2… (all of the seat's roots in one cut). By AI agents, Wed Nov 11 2026. No macro, syntax, notation, axiom, sorry.
-/
import Derived.Test.YthfhiepgdeghpaaChecked
import GoSem.Claim
import GoSem.ClaimJoined
import GoSem.ClaimMapViews
import Derived.JoinedTies
import Derived.KernelRfl
namespace Go.Proofs.Ythfhiepgdeghpaa
/- THE CELL 'sum', in the pinned program and in every row, IS THE sha256 OF THE DUMP (.gsa) THAT YthfhiepgdeghpaaProg.lean LOADS. Nothing in Lean hashes anything: it is a label: what it is worth is what the hold of that sum in a sandbox is worth. -/
noncomputable def Try.pinned : Pinned := { name := "ythfhiepgdeghpaa", sum := "791548c75f7282f25a9a96eea229b6fc177b8f496061f3b28a170ca867cca6e6", checked := Try.checked }
namespace Rows
def none {H : Type} : Left H := { results := [], args := [] }

/-- 'laws.FnExactReadCommits': WHATEVER THE INPUT: true; the input reads as it did. -/
def fnExactReadCommitsSpec : ChangeSpec := { name := "fnExactReadCommits", fn := fun _ => fun
  | [d] => { results := [.lit (.bool true)], args := [d] }
  | _ => none }
def fnExactReadCommitsRow : OpenClaim := { program := "ythfhiepgdeghpaa", sum := "791548c75f7282f25a9a96eea229b6fc177b8f496061f3b28a170ca867cca6e6", func := "loop.example/g00073/laws.FnExactReadCommits", spec := "fnExactReadCommits", apart := false }
def FnExactReadCommitsSaid : Prop := fnExactReadCommitsRow.holds Try.pinned (OpenSpec.ofChange fnExactReadCommitsSpec)

/-- ITS FALSE NEIGHBOUR: 'it returns false'. Refute it at one input. -/
def fnExactReadCommitsWrong : ChangeSpec := { name := "fnExactReadCommits", fn := fun _ => fun
  | [d] => { results := [.lit (.bool false)], args := [d] }
  | _ => none }
def FnExactReadCommitsWrongFalsely : Prop := fnExactReadCommitsRow.holds Try.pinned (OpenSpec.ofChange fnExactReadCommitsWrong)

/-- 'laws.FnExactBundleText': WHATEVER THE INPUT: true; the input reads as it did. -/
def fnExactBundleTextSpec : ChangeSpec := { name := "fnExactBundleText", fn := fun _ => fun
  | [d] => { results := [.lit (.bool true)], args := [d] }
  | _ => none }
def fnExactBundleTextRow : OpenClaim := { program := "ythfhiepgdeghpaa", sum := "791548c75f7282f25a9a96eea229b6fc177b8f496061f3b28a170ca867cca6e6", func := "loop.example/g00073/laws.FnExactBundleText", spec := "fnExactBundleText", inPlace := ["internal/abi.NoEscape", "internal/bytealg.IndexByteString", "internal/bytealg.IndexString"], named := ["internal/bytealg.MaxLen"], apart := false }
def FnExactBundleTextSaid : Prop := fnExactBundleTextRow.holds Try.pinned (OpenSpec.ofChange fnExactBundleTextSpec)

/-- ITS FALSE NEIGHBOUR: 'it returns false'. Refute it at one input. -/
def fnExactBundleTextWrong : ChangeSpec := { name := "fnExactBundleText", fn := fun _ => fun
  | [d] => { results := [.lit (.bool false)], args := [d] }
  | _ => none }
def FnExactBundleTextWrongFalsely : Prop := fnExactBundleTextRow.holds Try.pinned (OpenSpec.ofChange fnExactBundleTextWrong)

/-- 'laws.FnLives': WHATEVER THE INPUT: true; the input reads as it did. -/
def fnLivesSpec : ChangeSpec := { name := "fnLives", fn := fun _ => fun
  | [d] => { results := [.lit (.bool true)], args := [d] }
  | _ => none }
def fnLivesRow : OpenClaim := { program := "ythfhiepgdeghpaa", sum := "791548c75f7282f25a9a96eea229b6fc177b8f496061f3b28a170ca867cca6e6", func := "loop.example/g00073/laws.FnLives", spec := "fnLives", inPlace := ["internal/bytealg.IndexByteString", "internal/bytealg.IndexString"], unfollowed := true, recurses := true, named := ["internal/bytealg.MaxLen"], apart := false }
def FnLivesSaid : Prop := fnLivesRow.holds Try.pinned (OpenSpec.ofChange fnLivesSpec)

/-- ITS FALSE NEIGHBOUR: 'it returns false'. Refute it at one input. -/
def fnLivesWrong : ChangeSpec := { name := "fnLives", fn := fun _ => fun
  | [d] => { results := [.lit (.bool false)], args := [d] }
  | _ => none }
def FnLivesWrongFalsely : Prop := fnLivesRow.holds Try.pinned (OpenSpec.ofChange fnLivesWrong)

/-- 'laws.FnExactBlend': WHATEVER THE INPUT: true; the input reads as it did. -/
def fnExactBlendSpec : ChangeSpec := { name := "fnExactBlend", fn := fun _ => fun
  | [d1, d2] => { results := [.lit (.bool true)], args := [d1, d2] }
  | _ => none }
def fnExactBlendRow : OpenClaim := { program := "ythfhiepgdeghpaa", sum := "791548c75f7282f25a9a96eea229b6fc177b8f496061f3b28a170ca867cca6e6", func := "loop.example/g00073/laws.FnExactBlend", spec := "fnExactBlend", inPlace := ["internal/bytealg.IndexByteString", "internal/bytealg.IndexString"], named := ["internal/bytealg.MaxLen"], apart := false }
def FnExactBlendSaid : Prop := fnExactBlendRow.holds Try.pinned (OpenSpec.ofChange fnExactBlendSpec)

/-- ITS FALSE NEIGHBOUR: 'it returns false'. Refute it at one input. -/
def fnExactBlendWrong : ChangeSpec := { name := "fnExactBlend", fn := fun _ => fun
  | [d1, d2] => { results := [.lit (.bool false)], args := [d1, d2] }
  | _ => none }
def FnExactBlendWrongFalsely : Prop := fnExactBlendRow.holds Try.pinned (OpenSpec.ofChange fnExactBlendWrong)

/-- 'laws.FnExactLogOf': WHATEVER THE INPUT: true; the input reads as it did. -/
def fnExactLogOfSpec : ChangeSpec := { name := "fnExactLogOf", fn := fun _ => fun
  | [d1, d2, d3] => { results := [.lit (.bool true)], args := [d1, d2, d3] }
  | _ => none }
def fnExactLogOfRow : OpenClaim := { program := "ythfhiepgdeghpaa", sum := "791548c75f7282f25a9a96eea229b6fc177b8f496061f3b28a170ca867cca6e6", func := "loop.example/g00073/laws.FnExactLogOf", spec := "fnExactLogOf", inPlace := ["internal/bytealg.IndexByteString", "internal/bytealg.IndexString"], unfollowed := true, recurses := true, named := ["internal/bytealg.MaxLen"], apart := false }
def FnExactLogOfSaid : Prop := fnExactLogOfRow.holds Try.pinned (OpenSpec.ofChange fnExactLogOfSpec)

/-- ITS FALSE NEIGHBOUR: 'it returns false'. Refute it at one input. -/
def fnExactLogOfWrong : ChangeSpec := { name := "fnExactLogOf", fn := fun _ => fun
  | [d1, d2, d3] => { results := [.lit (.bool false)], args := [d1, d2, d3] }
  | _ => none }
def FnExactLogOfWrongFalsely : Prop := fnExactLogOfRow.holds Try.pinned (OpenSpec.ofChange fnExactLogOfWrong)

/-- 'laws.FnSees': WHATEVER THE INPUT: true; the input reads as it did. -/
def fnSeesSpec : ChangeSpec := { name := "fnSees", fn := fun _ => fun
  | [d] => { results := [.lit (.bool true)], args := [d] }
  | _ => none }
def fnSeesRow : OpenClaim := { program := "ythfhiepgdeghpaa", sum := "791548c75f7282f25a9a96eea229b6fc177b8f496061f3b28a170ca867cca6e6", func := "loop.example/g00073/laws.FnSees", spec := "fnSees", inPlace := ["internal/bytealg.IndexByteString", "internal/bytealg.IndexString"], named := ["internal/bytealg.MaxLen"], apart := false }
def FnSeesSaid : Prop := fnSeesRow.holds Try.pinned (OpenSpec.ofChange fnSeesSpec)

/-- ITS FALSE NEIGHBOUR: 'it returns false'. Refute it at one input. -/
def fnSeesWrong : ChangeSpec := { name := "fnSees", fn := fun _ => fun
  | [d] => { results := [.lit (.bool false)], args := [d] }
  | _ => none }
def FnSeesWrongFalsely : Prop := fnSeesRow.holds Try.pinned (OpenSpec.ofChange fnSeesWrong)

/-- 'laws.FnExactUndoOn': WHATEVER THE INPUT: true; the input reads as it did. -/
def fnExactUndoOnSpec : ChangeSpec := { name := "fnExactUndoOn", fn := fun _ => fun
  | [d1, d2, d3] => { results := [.lit (.bool true)], args := [d1, d2, d3] }
  | _ => none }
def fnExactUndoOnRow : OpenClaim := { program := "ythfhiepgdeghpaa", sum := "791548c75f7282f25a9a96eea229b6fc177b8f496061f3b28a170ca867cca6e6", func := "loop.example/g00073/laws.FnExactUndoOn", spec := "fnExactUndoOn", inPlace := ["internal/bytealg.IndexByteString", "internal/bytealg.IndexString"], unfollowed := true, recurses := true, named := ["internal/bytealg.MaxLen"], apart := false }
def FnExactUndoOnSaid : Prop := fnExactUndoOnRow.holds Try.pinned (OpenSpec.ofChange fnExactUndoOnSpec)

/-- ITS FALSE NEIGHBOUR: 'it returns false'. Refute it at one input. -/
def fnExactUndoOnWrong : ChangeSpec := { name := "fnExactUndoOn", fn := fun _ => fun
  | [d1, d2, d3] => { results := [.lit (.bool false)], args := [d1, d2, d3] }
  | _ => none }
def FnExactUndoOnWrongFalsely : Prop := fnExactUndoOnRow.holds Try.pinned (OpenSpec.ofChange fnExactUndoOnWrong)

/-- 'laws.FnExactPickOn': WHATEVER THE INPUT: true; the input reads as it did. -/
def fnExactPickOnSpec : ChangeSpec := { name := "fnExactPickOn", fn := fun _ => fun
  | [d1, d2, d3] => { results := [.lit (.bool true)], args := [d1, d2, d3] }
  | _ => none }
def fnExactPickOnRow : OpenClaim := { program := "ythfhiepgdeghpaa", sum := "791548c75f7282f25a9a96eea229b6fc177b8f496061f3b28a170ca867cca6e6", func := "loop.example/g00073/laws.FnExactPickOn", spec := "fnExactPickOn", inPlace := ["internal/bytealg.IndexByteString", "internal/bytealg.IndexString"], unfollowed := true, recurses := true, named := ["internal/bytealg.MaxLen"], apart := false }
def FnExactPickOnSaid : Prop := fnExactPickOnRow.holds Try.pinned (OpenSpec.ofChange fnExactPickOnSpec)

/-- ITS FALSE NEIGHBOUR: 'it returns false'. Refute it at one input. -/
def fnExactPickOnWrong : ChangeSpec := { name := "fnExactPickOn", fn := fun _ => fun
  | [d1, d2, d3] => { results := [.lit (.bool false)], args := [d1, d2, d3] }
  | _ => none }
def FnExactPickOnWrongFalsely : Prop := fnExactPickOnRow.holds Try.pinned (OpenSpec.ofChange fnExactPickOnWrong)

/-- 'laws.FnPicks': WHATEVER THE INPUT: true; the input reads as it did. -/
def fnPicksSpec : ChangeSpec := { name := "fnPicks", fn := fun _ => fun
  | [d] => { results := [.lit (.bool true)], args := [d] }
  | _ => none }
def fnPicksRow : OpenClaim := { program := "ythfhiepgdeghpaa", sum := "791548c75f7282f25a9a96eea229b6fc177b8f496061f3b28a170ca867cca6e6", func := "loop.example/g00073/laws.FnPicks", spec := "fnPicks", inPlace := ["internal/bytealg.IndexByteString", "internal/bytealg.IndexString"], unfollowed := true, recurses := true, named := ["internal/bytealg.MaxLen"], apart := false }
def FnPicksSaid : Prop := fnPicksRow.holds Try.pinned (OpenSpec.ofChange fnPicksSpec)

/-- ITS FALSE NEIGHBOUR: 'it returns false'. Refute it at one input. -/
def fnPicksWrong : ChangeSpec := { name := "fnPicks", fn := fun _ => fun
  | [d] => { results := [.lit (.bool false)], args := [d] }
  | _ => none }
def FnPicksWrongFalsely : Prop := fnPicksRow.holds Try.pinned (OpenSpec.ofChange fnPicksWrong)

/- THE SECOND FORM. 'bulk': how many values and letters a reading holds, each counted each time it is reached (what is shared counts as often as it is met; a slice's spare places count too). A statement '..UptoSaid' is the law's where the arguments, and the package variables that the reading takes, are together of bulk at most 1048576: NARROWER than '..Said'. Prove '..Said' where nothing that the law and all that it calls make is longer than what came in: it says more and counts as full. Else prove '..UptoSaid'. A law counts once. -/
mutual
def uptoBulk {H : Type} : DataW H → Nat
  | .lit (.string bytes) => bytes.length + 1
  | .lit _ => 1
  | .nil => 1
  | .ptr d => uptoBulk d + 1
  | .slice elems spare => uptoBulkAll elems + uptoBulkAll spare + 1
  | .agg parts => uptoBulkAll parts + 1
  | .iface _ d => uptoBulk d + 1
  | .map entries => uptoBulkEntries entries + 1
  | .held _ => 1
def uptoBulkAll {H : Type} : List (DataW H) → Nat
  | [] => 0
  | d :: r => uptoBulk d + uptoBulkAll r
def uptoBulkEntries {H : Type} : List (Lit × DataW H) → Nat
  | [] => 0
  | x :: r => uptoBulkEntry x + uptoBulkEntries r
def uptoBulkEntry {H : Type} : Lit × DataW H → Nat
  | (.string bytes, d) => bytes.length + uptoBulk d + 1
  | (_, d) => uptoBulk d + 1
 end
def uptoSmall : (H : Type) → List (DataW H) → Bool := fun _ ds => decide (uptoBulkAll ds ≤ 1048576)
def OpenSpec.upto (s : _root_.Go.ChangeSpec) : _root_.Go.OpenSpec := { _root_.Go.OpenSpec.ofChange s with cond := some uptoSmall }

/-- 'laws.FnExactReadCommits', WHERE WHAT IT READS IS OF BULK AT MOST 1048576: true; the input reads as it did. -/
def fnExactReadCommitsUptoRow : OpenClaim := { program := "ythfhiepgdeghpaa", sum := "791548c75f7282f25a9a96eea229b6fc177b8f496061f3b28a170ca867cca6e6", func := "loop.example/g00073/laws.FnExactReadCommits", spec := "fnExactReadCommits", apart := false, narrowed := true }
def FnExactReadCommitsUptoSaid : Prop := fnExactReadCommitsUptoRow.holds Try.pinned (OpenSpec.upto fnExactReadCommitsSpec)

/-- 'laws.FnExactBundleText', WHERE WHAT IT READS IS OF BULK AT MOST 1048576: true; the input reads as it did. -/
def fnExactBundleTextUptoRow : OpenClaim := { program := "ythfhiepgdeghpaa", sum := "791548c75f7282f25a9a96eea229b6fc177b8f496061f3b28a170ca867cca6e6", func := "loop.example/g00073/laws.FnExactBundleText", spec := "fnExactBundleText", inPlace := ["internal/abi.NoEscape", "internal/bytealg.IndexByteString", "internal/bytealg.IndexString"], named := ["internal/bytealg.MaxLen"], apart := false, narrowed := true }
def FnExactBundleTextUptoSaid : Prop := fnExactBundleTextUptoRow.holds Try.pinned (OpenSpec.upto fnExactBundleTextSpec)

/-- 'laws.FnLives', WHERE WHAT IT READS IS OF BULK AT MOST 1048576: true; the input reads as it did. -/
def fnLivesUptoRow : OpenClaim := { program := "ythfhiepgdeghpaa", sum := "791548c75f7282f25a9a96eea229b6fc177b8f496061f3b28a170ca867cca6e6", func := "loop.example/g00073/laws.FnLives", spec := "fnLives", inPlace := ["internal/bytealg.IndexByteString", "internal/bytealg.IndexString"], unfollowed := true, recurses := true, named := ["internal/bytealg.MaxLen"], apart := false, narrowed := true }
def FnLivesUptoSaid : Prop := fnLivesUptoRow.holds Try.pinned (OpenSpec.upto fnLivesSpec)

/-- 'laws.FnExactBlend', WHERE WHAT IT READS IS OF BULK AT MOST 1048576: true; the input reads as it did. -/
def fnExactBlendUptoRow : OpenClaim := { program := "ythfhiepgdeghpaa", sum := "791548c75f7282f25a9a96eea229b6fc177b8f496061f3b28a170ca867cca6e6", func := "loop.example/g00073/laws.FnExactBlend", spec := "fnExactBlend", inPlace := ["internal/bytealg.IndexByteString", "internal/bytealg.IndexString"], named := ["internal/bytealg.MaxLen"], apart := false, narrowed := true }
def FnExactBlendUptoSaid : Prop := fnExactBlendUptoRow.holds Try.pinned (OpenSpec.upto fnExactBlendSpec)

/-- 'laws.FnExactLogOf', WHERE WHAT IT READS IS OF BULK AT MOST 1048576: true; the input reads as it did. -/
def fnExactLogOfUptoRow : OpenClaim := { program := "ythfhiepgdeghpaa", sum := "791548c75f7282f25a9a96eea229b6fc177b8f496061f3b28a170ca867cca6e6", func := "loop.example/g00073/laws.FnExactLogOf", spec := "fnExactLogOf", inPlace := ["internal/bytealg.IndexByteString", "internal/bytealg.IndexString"], unfollowed := true, recurses := true, named := ["internal/bytealg.MaxLen"], apart := false, narrowed := true }
def FnExactLogOfUptoSaid : Prop := fnExactLogOfUptoRow.holds Try.pinned (OpenSpec.upto fnExactLogOfSpec)

/-- 'laws.FnSees', WHERE WHAT IT READS IS OF BULK AT MOST 1048576: true; the input reads as it did. -/
def fnSeesUptoRow : OpenClaim := { program := "ythfhiepgdeghpaa", sum := "791548c75f7282f25a9a96eea229b6fc177b8f496061f3b28a170ca867cca6e6", func := "loop.example/g00073/laws.FnSees", spec := "fnSees", inPlace := ["internal/bytealg.IndexByteString", "internal/bytealg.IndexString"], named := ["internal/bytealg.MaxLen"], apart := false, narrowed := true }
def FnSeesUptoSaid : Prop := fnSeesUptoRow.holds Try.pinned (OpenSpec.upto fnSeesSpec)

/-- 'laws.FnExactUndoOn', WHERE WHAT IT READS IS OF BULK AT MOST 1048576: true; the input reads as it did. -/
def fnExactUndoOnUptoRow : OpenClaim := { program := "ythfhiepgdeghpaa", sum := "791548c75f7282f25a9a96eea229b6fc177b8f496061f3b28a170ca867cca6e6", func := "loop.example/g00073/laws.FnExactUndoOn", spec := "fnExactUndoOn", inPlace := ["internal/bytealg.IndexByteString", "internal/bytealg.IndexString"], unfollowed := true, recurses := true, named := ["internal/bytealg.MaxLen"], apart := false, narrowed := true }
def FnExactUndoOnUptoSaid : Prop := fnExactUndoOnUptoRow.holds Try.pinned (OpenSpec.upto fnExactUndoOnSpec)

/-- 'laws.FnExactPickOn', WHERE WHAT IT READS IS OF BULK AT MOST 1048576: true; the input reads as it did. -/
def fnExactPickOnUptoRow : OpenClaim := { program := "ythfhiepgdeghpaa", sum := "791548c75f7282f25a9a96eea229b6fc177b8f496061f3b28a170ca867cca6e6", func := "loop.example/g00073/laws.FnExactPickOn", spec := "fnExactPickOn", inPlace := ["internal/bytealg.IndexByteString", "internal/bytealg.IndexString"], unfollowed := true, recurses := true, named := ["internal/bytealg.MaxLen"], apart := false, narrowed := true }
def FnExactPickOnUptoSaid : Prop := fnExactPickOnUptoRow.holds Try.pinned (OpenSpec.upto fnExactPickOnSpec)

/-- 'laws.FnPicks', WHERE WHAT IT READS IS OF BULK AT MOST 1048576: true; the input reads as it did. -/
def fnPicksUptoRow : OpenClaim := { program := "ythfhiepgdeghpaa", sum := "791548c75f7282f25a9a96eea229b6fc177b8f496061f3b28a170ca867cca6e6", func := "loop.example/g00073/laws.FnPicks", spec := "fnPicks", inPlace := ["internal/bytealg.IndexByteString", "internal/bytealg.IndexString"], unfollowed := true, recurses := true, named := ["internal/bytealg.MaxLen"], apart := false, narrowed := true }
def FnPicksUptoSaid : Prop := fnPicksUptoRow.holds Try.pinned (OpenSpec.upto fnPicksSpec)

end Rows
end Go.Proofs.Ythfhiepgdeghpaa
