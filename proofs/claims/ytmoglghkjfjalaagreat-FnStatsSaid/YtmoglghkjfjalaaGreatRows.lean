/-
  No cell of these rows narrows 'for every input' (looked for: loops, veiled, ifaces, maps, wideKeys, modest, calm, conditions, laid).
  DERIVED. THE GIVEN ROWS OF THIS SEAT. 6 by the template 'for every input the law returns true; each argument reads behind the call as it read before'; 0 by the template 'total and deterministic' (their statements: YtmoglghkjfjalaaGreatTotals.lean).
  GIVEN WITH THE SEED: the statements are not yours to turn. If you find one false, say at which input.
  Laid BY PROGRAM, IN A SANDBOX (cutbox-rows.mjs): the forced cells as the released guide's own fill.sh prints them over the translation 21e86be373e6c7bc… (all of the seat's roots in one cut). By AI agents, Wed Nov 11 2026. No macro, syntax, notation, axiom, sorry.
-/
import Derived.Test.YtmoglghkjfjalaaGreatChecked
import GoSem.Claim
import GoSem.ClaimJoined
import GoSem.ClaimMapViews
import Derived.JoinedTies
import Derived.KernelRfl
namespace Go.Proofs.YtmoglghkjfjalaaGreat
/- THE CELL 'sum', in the pinned program and in every row, IS THE sha256 OF THE DUMP (.gsa) THAT YtmoglghkjfjalaaGreatProg.lean LOADS. Nothing in Lean hashes anything: it is a label: what it is worth is what the hold of that sum in a sandbox is worth. -/
noncomputable def Tryz.pinned : Pinned := { name := "ytmoglghkjfjalaagreat", sum := "21e86be373e6c7bcc5bdc4b37e25a9634a94c8dc8b9131c20a637f1ee6139e99", checked := Tryz.checked }
namespace Rows
def none {H : Type} : Left H := { results := [], args := [] }

/-- 'laws.FnStats': WHATEVER THE INPUT: true; the input reads as it did. -/
def fnStatsSpec : ChangeSpec := { name := "fnStats", fn := fun _ => fun
  | [d] => { results := [.lit (.bool true)], args := [d] }
  | _ => none }
def fnStatsRow : OpenClaim := { program := "ytmoglghkjfjalaagreat", sum := "21e86be373e6c7bcc5bdc4b37e25a9634a94c8dc8b9131c20a637f1ee6139e99", func := "loop.example/g00073/laws.FnStats", spec := "fnStats", inPlace := ["internal/bytealg.IndexByteString", "internal/bytealg.IndexString"], unfollowed := true, recurses := true, named := ["internal/bytealg.MaxLen"], apart := false }
def FnStatsSaid : Prop := fnStatsRow.holds Tryz.pinned (OpenSpec.ofChange fnStatsSpec)

/-- ITS FALSE NEIGHBOUR: 'it returns false'. Refute it at one input. -/
def fnStatsWrong : ChangeSpec := { name := "fnStats", fn := fun _ => fun
  | [d] => { results := [.lit (.bool false)], args := [d] }
  | _ => none }
def FnStatsWrongFalsely : Prop := fnStatsRow.holds Tryz.pinned (OpenSpec.ofChange fnStatsWrong)

/-- 'laws.FnExactFileLog': WHATEVER THE INPUT: true; the input reads as it did. -/
def fnExactFileLogSpec : ChangeSpec := { name := "fnExactFileLog", fn := fun _ => fun
  | [d1, d2, d3] => { results := [.lit (.bool true)], args := [d1, d2, d3] }
  | _ => none }
def fnExactFileLogRow : OpenClaim := { program := "ytmoglghkjfjalaagreat", sum := "21e86be373e6c7bcc5bdc4b37e25a9634a94c8dc8b9131c20a637f1ee6139e99", func := "loop.example/g00073/laws.FnExactFileLog", spec := "fnExactFileLog", inPlace := ["internal/bytealg.IndexByteString", "internal/bytealg.IndexString"], unfollowed := true, recurses := true, named := ["internal/bytealg.MaxLen"], apart := false }
def FnExactFileLogSaid : Prop := fnExactFileLogRow.holds Tryz.pinned (OpenSpec.ofChange fnExactFileLogSpec)

/-- ITS FALSE NEIGHBOUR: 'it returns false'. Refute it at one input. -/
def fnExactFileLogWrong : ChangeSpec := { name := "fnExactFileLog", fn := fun _ => fun
  | [d1, d2, d3] => { results := [.lit (.bool false)], args := [d1, d2, d3] }
  | _ => none }
def FnExactFileLogWrongFalsely : Prop := fnExactFileLogRow.holds Tryz.pinned (OpenSpec.ofChange fnExactFileLogWrong)

/-- 'laws.FnRecords': WHATEVER THE INPUT: true; the input reads as it did. -/
def fnRecordsSpec : ChangeSpec := { name := "fnRecords", fn := fun _ => fun
  | [d] => { results := [.lit (.bool true)], args := [d] }
  | _ => none }
def fnRecordsRow : OpenClaim := { program := "ytmoglghkjfjalaagreat", sum := "21e86be373e6c7bcc5bdc4b37e25a9634a94c8dc8b9131c20a637f1ee6139e99", func := "loop.example/g00073/laws.FnRecords", spec := "fnRecords", inPlace := ["internal/bytealg.IndexByteString", "internal/bytealg.IndexString"], unfollowed := true, recurses := true, named := ["internal/bytealg.MaxLen"], apart := false }
def FnRecordsSaid : Prop := fnRecordsRow.holds Tryz.pinned (OpenSpec.ofChange fnRecordsSpec)

/-- ITS FALSE NEIGHBOUR: 'it returns false'. Refute it at one input. -/
def fnRecordsWrong : ChangeSpec := { name := "fnRecords", fn := fun _ => fun
  | [d] => { results := [.lit (.bool false)], args := [d] }
  | _ => none }
def FnRecordsWrongFalsely : Prop := fnRecordsRow.holds Tryz.pinned (OpenSpec.ofChange fnRecordsWrong)

/-- 'laws.FnBundles': WHATEVER THE INPUT: true; the input reads as it did. -/
def fnBundlesSpec : ChangeSpec := { name := "fnBundles", fn := fun _ => fun
  | [d] => { results := [.lit (.bool true)], args := [d] }
  | _ => none }
def fnBundlesRow : OpenClaim := { program := "ytmoglghkjfjalaagreat", sum := "21e86be373e6c7bcc5bdc4b37e25a9634a94c8dc8b9131c20a637f1ee6139e99", func := "loop.example/g00073/laws.FnBundles", spec := "fnBundles", inPlace := ["internal/abi.NoEscape", "internal/bytealg.IndexByteString", "internal/bytealg.IndexString"], named := ["internal/bytealg.MaxLen"], apart := false }
def FnBundlesSaid : Prop := fnBundlesRow.holds Tryz.pinned (OpenSpec.ofChange fnBundlesSpec)

/-- ITS FALSE NEIGHBOUR: 'it returns false'. Refute it at one input. -/
def fnBundlesWrong : ChangeSpec := { name := "fnBundles", fn := fun _ => fun
  | [d] => { results := [.lit (.bool false)], args := [d] }
  | _ => none }
def FnBundlesWrongFalsely : Prop := fnBundlesRow.holds Tryz.pinned (OpenSpec.ofChange fnBundlesWrong)

/-- 'laws.FnWoven': WHATEVER THE INPUT: true; the input reads as it did. -/
def fnWovenSpec : ChangeSpec := { name := "fnWoven", fn := fun _ => fun
  | [d] => { results := [.lit (.bool true)], args := [d] }
  | _ => none }
def fnWovenRow : OpenClaim := { program := "ytmoglghkjfjalaagreat", sum := "21e86be373e6c7bcc5bdc4b37e25a9634a94c8dc8b9131c20a637f1ee6139e99", func := "loop.example/g00073/laws.FnWoven", spec := "fnWoven", inPlace := ["internal/bytealg.IndexByteString", "internal/bytealg.IndexString", "internal/abi.NoEscape"], unfollowed := true, recurses := true, named := ["internal/bytealg.MaxLen"], apart := false }
def FnWovenSaid : Prop := fnWovenRow.holds Tryz.pinned (OpenSpec.ofChange fnWovenSpec)

/-- ITS FALSE NEIGHBOUR: 'it returns false'. Refute it at one input. -/
def fnWovenWrong : ChangeSpec := { name := "fnWoven", fn := fun _ => fun
  | [d] => { results := [.lit (.bool false)], args := [d] }
  | _ => none }
def FnWovenWrongFalsely : Prop := fnWovenRow.holds Tryz.pinned (OpenSpec.ofChange fnWovenWrong)

/-- 'laws.FnExactReadWeave': WHATEVER THE INPUT: true; the input reads as it did. -/
def fnExactReadWeaveSpec : ChangeSpec := { name := "fnExactReadWeave", fn := fun _ => fun
  | [d] => { results := [.lit (.bool true)], args := [d] }
  | _ => none }
def fnExactReadWeaveRow : OpenClaim := { program := "ytmoglghkjfjalaagreat", sum := "21e86be373e6c7bcc5bdc4b37e25a9634a94c8dc8b9131c20a637f1ee6139e99", func := "loop.example/g00073/laws.FnExactReadWeave", spec := "fnExactReadWeave", inPlace := ["internal/bytealg.IndexByteString", "internal/bytealg.IndexString", "internal/abi.NoEscape"], unfollowed := true, recurses := true, named := ["internal/bytealg.MaxLen"], apart := false }
def FnExactReadWeaveSaid : Prop := fnExactReadWeaveRow.holds Tryz.pinned (OpenSpec.ofChange fnExactReadWeaveSpec)

/-- ITS FALSE NEIGHBOUR: 'it returns false'. Refute it at one input. -/
def fnExactReadWeaveWrong : ChangeSpec := { name := "fnExactReadWeave", fn := fun _ => fun
  | [d] => { results := [.lit (.bool false)], args := [d] }
  | _ => none }
def FnExactReadWeaveWrongFalsely : Prop := fnExactReadWeaveRow.holds Tryz.pinned (OpenSpec.ofChange fnExactReadWeaveWrong)

/- THE SECOND FORM. 'bulk': how many values and letters a reading holds, each counted each time it is reached (what is shared counts as often as it is met; a slice's spare places count too). A statement '..UptoSaid' is the law's where the arguments, and the package variables that the reading takes, are together of bulk at most 1048576: NARROWER than '..Said'. Prove '..Said' where nothing that the law and all that it calls make is longer than what came in: it says more and counts as full. Else prove '..UptoSaid'. A law counts once. -/
mutual
def uptoBulk {H : Type} : DataW H → Nat
  | .lit (.string bytes) => bytes.length + 1
  | .lit _ => 1
  | .nil => 1
  | .ptr d => uptoBulk d + 1
  | .slice elems spare => uptoBulkAll elems + uptoBulkAll spare + 1
  | .agg parts => uptoBulkAll parts + 1
  | .iface _ d => uptoBulk d + 1
  | .map entries => uptoBulkEntries entries + 1
  | .held _ => 1
def uptoBulkAll {H : Type} : List (DataW H) → Nat
  | [] => 0
  | d :: r => uptoBulk d + uptoBulkAll r
def uptoBulkEntries {H : Type} : List (Lit × DataW H) → Nat
  | [] => 0
  | x :: r => uptoBulkEntry x + uptoBulkEntries r
def uptoBulkEntry {H : Type} : Lit × DataW H → Nat
  | (.string bytes, d) => bytes.length + uptoBulk d + 1
  | (_, d) => uptoBulk d + 1
 end
def uptoSmall : (H : Type) → List (DataW H) → Bool := fun _ ds => decide (uptoBulkAll ds ≤ 1048576)
def OpenSpec.upto (s : _root_.Go.ChangeSpec) : _root_.Go.OpenSpec := { _root_.Go.OpenSpec.ofChange s with cond := some uptoSmall }

/-- 'laws.FnStats', WHERE WHAT IT READS IS OF BULK AT MOST 1048576: true; the input reads as it did. -/
def fnStatsUptoRow : OpenClaim := { program := "ytmoglghkjfjalaagreat", sum := "21e86be373e6c7bcc5bdc4b37e25a9634a94c8dc8b9131c20a637f1ee6139e99", func := "loop.example/g00073/laws.FnStats", spec := "fnStats", inPlace := ["internal/bytealg.IndexByteString", "internal/bytealg.IndexString"], unfollowed := true, recurses := true, named := ["internal/bytealg.MaxLen"], apart := false, narrowed := true }
def FnStatsUptoSaid : Prop := fnStatsUptoRow.holds Tryz.pinned (OpenSpec.upto fnStatsSpec)

/-- 'laws.FnExactFileLog', WHERE WHAT IT READS IS OF BULK AT MOST 1048576: true; the input reads as it did. -/
def fnExactFileLogUptoRow : OpenClaim := { program := "ytmoglghkjfjalaagreat", sum := "21e86be373e6c7bcc5bdc4b37e25a9634a94c8dc8b9131c20a637f1ee6139e99", func := "loop.example/g00073/laws.FnExactFileLog", spec := "fnExactFileLog", inPlace := ["internal/bytealg.IndexByteString", "internal/bytealg.IndexString"], unfollowed := true, recurses := true, named := ["internal/bytealg.MaxLen"], apart := false, narrowed := true }
def FnExactFileLogUptoSaid : Prop := fnExactFileLogUptoRow.holds Tryz.pinned (OpenSpec.upto fnExactFileLogSpec)

/-- 'laws.FnRecords', WHERE WHAT IT READS IS OF BULK AT MOST 1048576: true; the input reads as it did. -/
def fnRecordsUptoRow : OpenClaim := { program := "ytmoglghkjfjalaagreat", sum := "21e86be373e6c7bcc5bdc4b37e25a9634a94c8dc8b9131c20a637f1ee6139e99", func := "loop.example/g00073/laws.FnRecords", spec := "fnRecords", inPlace := ["internal/bytealg.IndexByteString", "internal/bytealg.IndexString"], unfollowed := true, recurses := true, named := ["internal/bytealg.MaxLen"], apart := false, narrowed := true }
def FnRecordsUptoSaid : Prop := fnRecordsUptoRow.holds Tryz.pinned (OpenSpec.upto fnRecordsSpec)

/-- 'laws.FnBundles', WHERE WHAT IT READS IS OF BULK AT MOST 1048576: true; the input reads as it did. -/
def fnBundlesUptoRow : OpenClaim := { program := "ytmoglghkjfjalaagreat", sum := "21e86be373e6c7bcc5bdc4b37e25a9634a94c8dc8b9131c20a637f1ee6139e99", func := "loop.example/g00073/laws.FnBundles", spec := "fnBundles", inPlace := ["internal/abi.NoEscape", "internal/bytealg.IndexByteString", "internal/bytealg.IndexString"], named := ["internal/bytealg.MaxLen"], apart := false, narrowed := true }
def FnBundlesUptoSaid : Prop := fnBundlesUptoRow.holds Tryz.pinned (OpenSpec.upto fnBundlesSpec)

/-- 'laws.FnWoven', WHERE WHAT IT READS IS OF BULK AT MOST 1048576: true; the input reads as it did. -/
def fnWovenUptoRow : OpenClaim := { program := "ytmoglghkjfjalaagreat", sum := "21e86be373e6c7bcc5bdc4b37e25a9634a94c8dc8b9131c20a637f1ee6139e99", func := "loop.example/g00073/laws.FnWoven", spec := "fnWoven", inPlace := ["internal/bytealg.IndexByteString", "internal/bytealg.IndexString", "internal/abi.NoEscape"], unfollowed := true, recurses := true, named := ["internal/bytealg.MaxLen"], apart := false, narrowed := true }
def FnWovenUptoSaid : Prop := fnWovenUptoRow.holds Tryz.pinned (OpenSpec.upto fnWovenSpec)

/-- 'laws.FnExactReadWeave', WHERE WHAT IT READS IS OF BULK AT MOST 1048576: true; the input reads as it did. -/
def fnExactReadWeaveUptoRow : OpenClaim := { program := "ytmoglghkjfjalaagreat", sum := "21e86be373e6c7bcc5bdc4b37e25a9634a94c8dc8b9131c20a637f1ee6139e99", func := "loop.example/g00073/laws.FnExactReadWeave", spec := "fnExactReadWeave", inPlace := ["internal/bytealg.IndexByteString", "internal/bytealg.IndexString", "internal/abi.NoEscape"], unfollowed := true, recurses := true, named := ["internal/bytealg.MaxLen"], apart := false, narrowed := true }
def FnExactReadWeaveUptoSaid : Prop := fnExactReadWeaveUptoRow.holds Tryz.pinned (OpenSpec.upto fnExactReadWeaveSpec)

end Rows
end Go.Proofs.YtmoglghkjfjalaaGreat
