/-
  No cell of these rows narrows 'for every input' (looked for: loops, veiled, ifaces, maps, wideKeys, modest, calm, conditions, laid).
  DERIVED. THE GIVEN ROWS OF THIS SEAT. 10 by the template 'for every input the law returns true; each argument reads behind the call as it read before'; 0 by the template 'total and deterministic' (their statements: YtbapbpnchdpbhaaGreatTotals.lean).
  GIVEN WITH THE SEED: the statements are not yours to turn. If you find one false, say at which input.
  Laid BY PROGRAM, IN A SANDBOX (cutbox-rows.mjs): the forced cells as the released guide's own fill.sh prints them over the translation 30b9cbfe0df19112… (all of the seat's roots in one cut). By AI agents, Wed Nov 11 2026. No macro, syntax, notation, axiom, sorry.
-/
import Derived.Test.YtbapbpnchdpbhaaGreatChecked
import GoSem.Claim
import GoSem.ClaimJoined
import GoSem.ClaimMapViews
import Derived.JoinedTies
import Derived.KernelRfl
namespace Go.Proofs.YtbapbpnchdpbhaaGreat
/- THE CELL 'sum', in the pinned program and in every row, IS THE sha256 OF THE DUMP (.gsa) THAT YtbapbpnchdpbhaaGreatProg.lean LOADS. Nothing in Lean hashes anything: it is a label: what it is worth is what the hold of that sum in a sandbox is worth. -/
noncomputable def Tryz.pinned : Pinned := { name := "ytbapbpnchdpbhaagreat", sum := "30b9cbfe0df191120ca6f5b639bc8065e63259109f07ef66668981a1afbb90db", checked := Tryz.checked }
namespace Rows
def none {H : Type} : Left H := { results := [], args := [] }

/-- 'laws.FnRecords': WHATEVER THE INPUT: true; the input reads as it did. -/
def fnRecordsSpec : ChangeSpec := { name := "fnRecords", fn := fun _ => fun
  | [d] => { results := [.lit (.bool true)], args := [d] }
  | _ => none }
def fnRecordsRow : OpenClaim := { program := "ytbapbpnchdpbhaagreat", sum := "30b9cbfe0df191120ca6f5b639bc8065e63259109f07ef66668981a1afbb90db", func := "loop.example/g00073/laws.FnRecords", spec := "fnRecords", inPlace := ["internal/bytealg.IndexByteString", "internal/bytealg.IndexString"], unfollowed := true, recurses := true, named := ["internal/bytealg.MaxLen"], apart := false }
def FnRecordsSaid : Prop := fnRecordsRow.holds Tryz.pinned (OpenSpec.ofChange fnRecordsSpec)

/-- ITS FALSE NEIGHBOUR: 'it returns false'. Refute it at one input. -/
def fnRecordsWrong : ChangeSpec := { name := "fnRecords", fn := fun _ => fun
  | [d] => { results := [.lit (.bool false)], args := [d] }
  | _ => none }
def FnRecordsWrongFalsely : Prop := fnRecordsRow.holds Tryz.pinned (OpenSpec.ofChange fnRecordsWrong)

/-- 'laws.FnBundles': WHATEVER THE INPUT: true; the input reads as it did. -/
def fnBundlesSpec : ChangeSpec := { name := "fnBundles", fn := fun _ => fun
  | [d] => { results := [.lit (.bool true)], args := [d] }
  | _ => none }
def fnBundlesRow : OpenClaim := { program := "ytbapbpnchdpbhaagreat", sum := "30b9cbfe0df191120ca6f5b639bc8065e63259109f07ef66668981a1afbb90db", func := "loop.example/g00073/laws.FnBundles", spec := "fnBundles", inPlace := ["internal/abi.NoEscape", "internal/bytealg.IndexByteString", "internal/bytealg.IndexString"], named := ["internal/bytealg.MaxLen"], apart := false }
def FnBundlesSaid : Prop := fnBundlesRow.holds Tryz.pinned (OpenSpec.ofChange fnBundlesSpec)

/-- ITS FALSE NEIGHBOUR: 'it returns false'. Refute it at one input. -/
def fnBundlesWrong : ChangeSpec := { name := "fnBundles", fn := fun _ => fun
  | [d] => { results := [.lit (.bool false)], args := [d] }
  | _ => none }
def FnBundlesWrongFalsely : Prop := fnBundlesRow.holds Tryz.pinned (OpenSpec.ofChange fnBundlesWrong)

/-- 'laws.FnWoven': WHATEVER THE INPUT: true; the input reads as it did. -/
def fnWovenSpec : ChangeSpec := { name := "fnWoven", fn := fun _ => fun
  | [d] => { results := [.lit (.bool true)], args := [d] }
  | _ => none }
def fnWovenRow : OpenClaim := { program := "ytbapbpnchdpbhaagreat", sum := "30b9cbfe0df191120ca6f5b639bc8065e63259109f07ef66668981a1afbb90db", func := "loop.example/g00073/laws.FnWoven", spec := "fnWoven", inPlace := ["internal/bytealg.IndexByteString", "internal/bytealg.IndexString", "internal/abi.NoEscape"], unfollowed := true, recurses := true, named := ["internal/bytealg.MaxLen"], apart := false }
def FnWovenSaid : Prop := fnWovenRow.holds Tryz.pinned (OpenSpec.ofChange fnWovenSpec)

/-- ITS FALSE NEIGHBOUR: 'it returns false'. Refute it at one input. -/
def fnWovenWrong : ChangeSpec := { name := "fnWoven", fn := fun _ => fun
  | [d] => { results := [.lit (.bool false)], args := [d] }
  | _ => none }
def FnWovenWrongFalsely : Prop := fnWovenRow.holds Tryz.pinned (OpenSpec.ofChange fnWovenWrong)

/-- 'laws.FnExactReadWeave': WHATEVER THE INPUT: true; the input reads as it did. -/
def fnExactReadWeaveSpec : ChangeSpec := { name := "fnExactReadWeave", fn := fun _ => fun
  | [d] => { results := [.lit (.bool true)], args := [d] }
  | _ => none }
def fnExactReadWeaveRow : OpenClaim := { program := "ytbapbpnchdpbhaagreat", sum := "30b9cbfe0df191120ca6f5b639bc8065e63259109f07ef66668981a1afbb90db", func := "loop.example/g00073/laws.FnExactReadWeave", spec := "fnExactReadWeave", inPlace := ["internal/bytealg.IndexByteString", "internal/bytealg.IndexString", "internal/abi.NoEscape"], unfollowed := true, recurses := true, named := ["internal/bytealg.MaxLen"], apart := false }
def FnExactReadWeaveSaid : Prop := fnExactReadWeaveRow.holds Tryz.pinned (OpenSpec.ofChange fnExactReadWeaveSpec)

/-- ITS FALSE NEIGHBOUR: 'it returns false'. Refute it at one input. -/
def fnExactReadWeaveWrong : ChangeSpec := { name := "fnExactReadWeave", fn := fun _ => fun
  | [d] => { results := [.lit (.bool false)], args := [d] }
  | _ => none }
def FnExactReadWeaveWrongFalsely : Prop := fnExactReadWeaveRow.holds Tryz.pinned (OpenSpec.ofChange fnExactReadWeaveWrong)

/-- 'laws.FnWovenOne': WHATEVER THE INPUT: true; the input reads as it did. -/
def fnWovenOneSpec : ChangeSpec := { name := "fnWovenOne", fn := fun _ => fun
  | [d] => { results := [.lit (.bool true)], args := [d] }
  | _ => none }
def fnWovenOneRow : OpenClaim := { program := "ytbapbpnchdpbhaagreat", sum := "30b9cbfe0df191120ca6f5b639bc8065e63259109f07ef66668981a1afbb90db", func := "loop.example/g00073/laws.FnWovenOne", spec := "fnWovenOne", inPlace := ["internal/bytealg.IndexByteString", "internal/bytealg.IndexString", "internal/abi.NoEscape"], unfollowed := true, recurses := true, named := ["internal/bytealg.MaxLen"], apart := false }
def FnWovenOneSaid : Prop := fnWovenOneRow.holds Tryz.pinned (OpenSpec.ofChange fnWovenOneSpec)

/-- ITS FALSE NEIGHBOUR: 'it returns false'. Refute it at one input. -/
def fnWovenOneWrong : ChangeSpec := { name := "fnWovenOne", fn := fun _ => fun
  | [d] => { results := [.lit (.bool false)], args := [d] }
  | _ => none }
def FnWovenOneWrongFalsely : Prop := fnWovenOneRow.holds Tryz.pinned (OpenSpec.ofChange fnWovenOneWrong)

/-- 'laws.FnLogs': WHATEVER THE INPUT: true; the input reads as it did. -/
def fnLogsSpec : ChangeSpec := { name := "fnLogs", fn := fun _ => fun
  | [d] => { results := [.lit (.bool true)], args := [d] }
  | _ => none }
def fnLogsRow : OpenClaim := { program := "ytbapbpnchdpbhaagreat", sum := "30b9cbfe0df191120ca6f5b639bc8065e63259109f07ef66668981a1afbb90db", func := "loop.example/g00073/laws.FnLogs", spec := "fnLogs", inPlace := ["internal/bytealg.IndexByteString", "internal/bytealg.IndexString", "slices.overlaps[loop.example/g00073/impl.Name]", "slices.overlaps[loop.example/g00073/impl.Body]"], unfollowed := true, recurses := true, named := ["internal/bytealg.MaxLen"], apart := false }
def FnLogsSaid : Prop := fnLogsRow.holds Tryz.pinned (OpenSpec.ofChange fnLogsSpec)

/-- ITS FALSE NEIGHBOUR: 'it returns false'. Refute it at one input. -/
def fnLogsWrong : ChangeSpec := { name := "fnLogs", fn := fun _ => fun
  | [d] => { results := [.lit (.bool false)], args := [d] }
  | _ => none }
def FnLogsWrongFalsely : Prop := fnLogsRow.holds Tryz.pinned (OpenSpec.ofChange fnLogsWrong)

/-- 'laws.FnSays': WHATEVER THE INPUT: true; the input reads as it did. -/
def fnSaysSpec : ChangeSpec := { name := "fnSays", fn := fun _ => fun
  | [d] => { results := [.lit (.bool true)], args := [d] }
  | _ => none }
def fnSaysRow : OpenClaim := { program := "ytbapbpnchdpbhaagreat", sum := "30b9cbfe0df191120ca6f5b639bc8065e63259109f07ef66668981a1afbb90db", func := "loop.example/g00073/laws.FnSays", spec := "fnSays", inPlace := ["internal/bytealg.IndexByteString", "internal/bytealg.IndexString", "slices.overlaps[loop.example/g00073/impl.Name]", "slices.overlaps[loop.example/g00073/impl.Body]"], unfollowed := true, recurses := true, named := ["internal/bytealg.MaxLen"], apart := false }
def FnSaysSaid : Prop := fnSaysRow.holds Tryz.pinned (OpenSpec.ofChange fnSaysSpec)

/-- ITS FALSE NEIGHBOUR: 'it returns false'. Refute it at one input. -/
def fnSaysWrong : ChangeSpec := { name := "fnSays", fn := fun _ => fun
  | [d] => { results := [.lit (.bool false)], args := [d] }
  | _ => none }
def FnSaysWrongFalsely : Prop := fnSaysRow.holds Tryz.pinned (OpenSpec.ofChange fnSaysWrong)

/-- 'laws.FnCommits': WHATEVER THE INPUT: true; the input reads as it did. -/
def fnCommitsSpec : ChangeSpec := { name := "fnCommits", fn := fun _ => fun
  | [d] => { results := [.lit (.bool true)], args := [d] }
  | _ => none }
def fnCommitsRow : OpenClaim := { program := "ytbapbpnchdpbhaagreat", sum := "30b9cbfe0df191120ca6f5b639bc8065e63259109f07ef66668981a1afbb90db", func := "loop.example/g00073/laws.FnCommits", spec := "fnCommits", inPlace := ["internal/bytealg.IndexByteString", "internal/bytealg.IndexString", "slices.overlaps[loop.example/g00073/impl.Name]", "slices.overlaps[loop.example/g00073/impl.Body]"], unfollowed := true, recurses := true, named := ["internal/bytealg.MaxLen"], apart := false }
def FnCommitsSaid : Prop := fnCommitsRow.holds Tryz.pinned (OpenSpec.ofChange fnCommitsSpec)

/-- ITS FALSE NEIGHBOUR: 'it returns false'. Refute it at one input. -/
def fnCommitsWrong : ChangeSpec := { name := "fnCommits", fn := fun _ => fun
  | [d] => { results := [.lit (.bool false)], args := [d] }
  | _ => none }
def FnCommitsWrongFalsely : Prop := fnCommitsRow.holds Tryz.pinned (OpenSpec.ofChange fnCommitsWrong)

/-- 'laws.FnRefused': WHATEVER THE INPUT: true; the input reads as it did. -/
def fnRefusedSpec : ChangeSpec := { name := "fnRefused", fn := fun _ => fun
  | [d] => { results := [.lit (.bool true)], args := [d] }
  | _ => none }
def fnRefusedRow : OpenClaim := { program := "ytbapbpnchdpbhaagreat", sum := "30b9cbfe0df191120ca6f5b639bc8065e63259109f07ef66668981a1afbb90db", func := "loop.example/g00073/laws.FnRefused", spec := "fnRefused", inPlace := ["internal/bytealg.IndexByteString", "internal/bytealg.IndexString", "slices.overlaps[loop.example/g00073/impl.Name]", "slices.overlaps[loop.example/g00073/impl.Body]"], unfollowed := true, recurses := true, named := ["internal/bytealg.MaxLen"], apart := false }
def FnRefusedSaid : Prop := fnRefusedRow.holds Tryz.pinned (OpenSpec.ofChange fnRefusedSpec)

/-- ITS FALSE NEIGHBOUR: 'it returns false'. Refute it at one input. -/
def fnRefusedWrong : ChangeSpec := { name := "fnRefused", fn := fun _ => fun
  | [d] => { results := [.lit (.bool false)], args := [d] }
  | _ => none }
def FnRefusedWrongFalsely : Prop := fnRefusedRow.holds Tryz.pinned (OpenSpec.ofChange fnRefusedWrong)

/-- 'laws.FnExactReplaySteps': WHATEVER THE INPUT: true; the input reads as it did. -/
def fnExactReplayStepsSpec : ChangeSpec := { name := "fnExactReplaySteps", fn := fun _ => fun
  | [d] => { results := [.lit (.bool true)], args := [d] }
  | _ => none }
def fnExactReplayStepsRow : OpenClaim := { program := "ytbapbpnchdpbhaagreat", sum := "30b9cbfe0df191120ca6f5b639bc8065e63259109f07ef66668981a1afbb90db", func := "loop.example/g00073/laws.FnExactReplaySteps", spec := "fnExactReplaySteps", inPlace := ["internal/bytealg.IndexByteString", "internal/bytealg.IndexString", "slices.overlaps[loop.example/g00073/impl.Name]", "slices.overlaps[loop.example/g00073/impl.Body]"], unfollowed := true, recurses := true, named := ["internal/bytealg.MaxLen"], apart := false }
def FnExactReplayStepsSaid : Prop := fnExactReplayStepsRow.holds Tryz.pinned (OpenSpec.ofChange fnExactReplayStepsSpec)

/-- ITS FALSE NEIGHBOUR: 'it returns false'. Refute it at one input. -/
def fnExactReplayStepsWrong : ChangeSpec := { name := "fnExactReplaySteps", fn := fun _ => fun
  | [d] => { results := [.lit (.bool false)], args := [d] }
  | _ => none }
def FnExactReplayStepsWrongFalsely : Prop := fnExactReplayStepsRow.holds Tryz.pinned (OpenSpec.ofChange fnExactReplayStepsWrong)

/- THE SECOND FORM. 'bulk': how many values and letters a reading holds, each counted each time it is reached (what is shared counts as often as it is met; a slice's spare places count too). A statement '..UptoSaid' is the law's where the arguments, and the package variables that the reading takes, are together of bulk at most 1048576: NARROWER than '..Said'. Prove '..Said' where nothing that the law and all that it calls make is longer than what came in: it says more and counts as full. Else prove '..UptoSaid'. A law counts once. -/
mutual
def uptoBulk {H : Type} : DataW H → Nat
  | .lit (.string bytes) => bytes.length + 1
  | .lit _ => 1
  | .nil => 1
  | .ptr d => uptoBulk d + 1
  | .slice elems spare => uptoBulkAll elems + uptoBulkAll spare + 1
  | .agg parts => uptoBulkAll parts + 1
  | .iface _ d => uptoBulk d + 1
  | .map entries => uptoBulkEntries entries + 1
  | .held _ => 1
def uptoBulkAll {H : Type} : List (DataW H) → Nat
  | [] => 0
  | d :: r => uptoBulk d + uptoBulkAll r
def uptoBulkEntries {H : Type} : List (Lit × DataW H) → Nat
  | [] => 0
  | x :: r => uptoBulkEntry x + uptoBulkEntries r
def uptoBulkEntry {H : Type} : Lit × DataW H → Nat
  | (.string bytes, d) => bytes.length + uptoBulk d + 1
  | (_, d) => uptoBulk d + 1
 end
def uptoSmall : (H : Type) → List (DataW H) → Bool := fun _ ds => decide (uptoBulkAll ds ≤ 1048576)
def OpenSpec.upto (s : _root_.Go.ChangeSpec) : _root_.Go.OpenSpec := { _root_.Go.OpenSpec.ofChange s with cond := some uptoSmall }

/-- 'laws.FnRecords', WHERE WHAT IT READS IS OF BULK AT MOST 1048576: true; the input reads as it did. -/
def fnRecordsUptoRow : OpenClaim := { program := "ytbapbpnchdpbhaagreat", sum := "30b9cbfe0df191120ca6f5b639bc8065e63259109f07ef66668981a1afbb90db", func := "loop.example/g00073/laws.FnRecords", spec := "fnRecords", inPlace := ["internal/bytealg.IndexByteString", "internal/bytealg.IndexString"], unfollowed := true, recurses := true, named := ["internal/bytealg.MaxLen"], apart := false, narrowed := true }
def FnRecordsUptoSaid : Prop := fnRecordsUptoRow.holds Tryz.pinned (OpenSpec.upto fnRecordsSpec)

/-- 'laws.FnBundles', WHERE WHAT IT READS IS OF BULK AT MOST 1048576: true; the input reads as it did. -/
def fnBundlesUptoRow : OpenClaim := { program := "ytbapbpnchdpbhaagreat", sum := "30b9cbfe0df191120ca6f5b639bc8065e63259109f07ef66668981a1afbb90db", func := "loop.example/g00073/laws.FnBundles", spec := "fnBundles", inPlace := ["internal/abi.NoEscape", "internal/bytealg.IndexByteString", "internal/bytealg.IndexString"], named := ["internal/bytealg.MaxLen"], apart := false, narrowed := true }
def FnBundlesUptoSaid : Prop := fnBundlesUptoRow.holds Tryz.pinned (OpenSpec.upto fnBundlesSpec)

/-- 'laws.FnWoven', WHERE WHAT IT READS IS OF BULK AT MOST 1048576: true; the input reads as it did. -/
def fnWovenUptoRow : OpenClaim := { program := "ytbapbpnchdpbhaagreat", sum := "30b9cbfe0df191120ca6f5b639bc8065e63259109f07ef66668981a1afbb90db", func := "loop.example/g00073/laws.FnWoven", spec := "fnWoven", inPlace := ["internal/bytealg.IndexByteString", "internal/bytealg.IndexString", "internal/abi.NoEscape"], unfollowed := true, recurses := true, named := ["internal/bytealg.MaxLen"], apart := false, narrowed := true }
def FnWovenUptoSaid : Prop := fnWovenUptoRow.holds Tryz.pinned (OpenSpec.upto fnWovenSpec)

/-- 'laws.FnExactReadWeave', WHERE WHAT IT READS IS OF BULK AT MOST 1048576: true; the input reads as it did. -/
def fnExactReadWeaveUptoRow : OpenClaim := { program := "ytbapbpnchdpbhaagreat", sum := "30b9cbfe0df191120ca6f5b639bc8065e63259109f07ef66668981a1afbb90db", func := "loop.example/g00073/laws.FnExactReadWeave", spec := "fnExactReadWeave", inPlace := ["internal/bytealg.IndexByteString", "internal/bytealg.IndexString", "internal/abi.NoEscape"], unfollowed := true, recurses := true, named := ["internal/bytealg.MaxLen"], apart := false, narrowed := true }
def FnExactReadWeaveUptoSaid : Prop := fnExactReadWeaveUptoRow.holds Tryz.pinned (OpenSpec.upto fnExactReadWeaveSpec)

/-- 'laws.FnWovenOne', WHERE WHAT IT READS IS OF BULK AT MOST 1048576: true; the input reads as it did. -/
def fnWovenOneUptoRow : OpenClaim := { program := "ytbapbpnchdpbhaagreat", sum := "30b9cbfe0df191120ca6f5b639bc8065e63259109f07ef66668981a1afbb90db", func := "loop.example/g00073/laws.FnWovenOne", spec := "fnWovenOne", inPlace := ["internal/bytealg.IndexByteString", "internal/bytealg.IndexString", "internal/abi.NoEscape"], unfollowed := true, recurses := true, named := ["internal/bytealg.MaxLen"], apart := false, narrowed := true }
def FnWovenOneUptoSaid : Prop := fnWovenOneUptoRow.holds Tryz.pinned (OpenSpec.upto fnWovenOneSpec)

/-- 'laws.FnLogs', WHERE WHAT IT READS IS OF BULK AT MOST 1048576: true; the input reads as it did. -/
def fnLogsUptoRow : OpenClaim := { program := "ytbapbpnchdpbhaagreat", sum := "30b9cbfe0df191120ca6f5b639bc8065e63259109f07ef66668981a1afbb90db", func := "loop.example/g00073/laws.FnLogs", spec := "fnLogs", inPlace := ["internal/bytealg.IndexByteString", "internal/bytealg.IndexString", "slices.overlaps[loop.example/g00073/impl.Name]", "slices.overlaps[loop.example/g00073/impl.Body]"], unfollowed := true, recurses := true, named := ["internal/bytealg.MaxLen"], apart := false, narrowed := true }
def FnLogsUptoSaid : Prop := fnLogsUptoRow.holds Tryz.pinned (OpenSpec.upto fnLogsSpec)

/-- 'laws.FnSays', WHERE WHAT IT READS IS OF BULK AT MOST 1048576: true; the input reads as it did. -/
def fnSaysUptoRow : OpenClaim := { program := "ytbapbpnchdpbhaagreat", sum := "30b9cbfe0df191120ca6f5b639bc8065e63259109f07ef66668981a1afbb90db", func := "loop.example/g00073/laws.FnSays", spec := "fnSays", inPlace := ["internal/bytealg.IndexByteString", "internal/bytealg.IndexString", "slices.overlaps[loop.example/g00073/impl.Name]", "slices.overlaps[loop.example/g00073/impl.Body]"], unfollowed := true, recurses := true, named := ["internal/bytealg.MaxLen"], apart := false, narrowed := true }
def FnSaysUptoSaid : Prop := fnSaysUptoRow.holds Tryz.pinned (OpenSpec.upto fnSaysSpec)

/-- 'laws.FnCommits', WHERE WHAT IT READS IS OF BULK AT MOST 1048576: true; the input reads as it did. -/
def fnCommitsUptoRow : OpenClaim := { program := "ytbapbpnchdpbhaagreat", sum := "30b9cbfe0df191120ca6f5b639bc8065e63259109f07ef66668981a1afbb90db", func := "loop.example/g00073/laws.FnCommits", spec := "fnCommits", inPlace := ["internal/bytealg.IndexByteString", "internal/bytealg.IndexString", "slices.overlaps[loop.example/g00073/impl.Name]", "slices.overlaps[loop.example/g00073/impl.Body]"], unfollowed := true, recurses := true, named := ["internal/bytealg.MaxLen"], apart := false, narrowed := true }
def FnCommitsUptoSaid : Prop := fnCommitsUptoRow.holds Tryz.pinned (OpenSpec.upto fnCommitsSpec)

/-- 'laws.FnRefused', WHERE WHAT IT READS IS OF BULK AT MOST 1048576: true; the input reads as it did. -/
def fnRefusedUptoRow : OpenClaim := { program := "ytbapbpnchdpbhaagreat", sum := "30b9cbfe0df191120ca6f5b639bc8065e63259109f07ef66668981a1afbb90db", func := "loop.example/g00073/laws.FnRefused", spec := "fnRefused", inPlace := ["internal/bytealg.IndexByteString", "internal/bytealg.IndexString", "slices.overlaps[loop.example/g00073/impl.Name]", "slices.overlaps[loop.example/g00073/impl.Body]"], unfollowed := true, recurses := true, named := ["internal/bytealg.MaxLen"], apart := false, narrowed := true }
def FnRefusedUptoSaid : Prop := fnRefusedUptoRow.holds Tryz.pinned (OpenSpec.upto fnRefusedSpec)

/-- 'laws.FnExactReplaySteps', WHERE WHAT IT READS IS OF BULK AT MOST 1048576: true; the input reads as it did. -/
def fnExactReplayStepsUptoRow : OpenClaim := { program := "ytbapbpnchdpbhaagreat", sum := "30b9cbfe0df191120ca6f5b639bc8065e63259109f07ef66668981a1afbb90db", func := "loop.example/g00073/laws.FnExactReplaySteps", spec := "fnExactReplaySteps", inPlace := ["internal/bytealg.IndexByteString", "internal/bytealg.IndexString", "slices.overlaps[loop.example/g00073/impl.Name]", "slices.overlaps[loop.example/g00073/impl.Body]"], unfollowed := true, recurses := true, named := ["internal/bytealg.MaxLen"], apart := false, narrowed := true }
def FnExactReplayStepsUptoSaid : Prop := fnExactReplayStepsUptoRow.holds Tryz.pinned (OpenSpec.upto fnExactReplayStepsSpec)

end Rows
end Go.Proofs.YtbapbpnchdpbhaaGreat
