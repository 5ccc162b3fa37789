/-
  No cell of these rows narrows 'for every input' (looked for: loops, veiled, ifaces, maps, wideKeys, modest, calm, conditions, laid).
  DERIVED. THE GIVEN ROWS OF THIS SEAT. 12 by the template 'for every input the law returns true; each argument reads behind the call as it read before'; 0 by the template 'total and deterministic' (their statements: YtlnglooomeliiaaTotals.lean).
  GIVEN WITH THE SEED: the statements are not yours to turn. If you find one false, say at which input.
  Laid BY PROGRAM, IN A SANDBOX (cutbox-rows.mjs): the forced cells as the released guide's own fill.sh prints them over the translation ed640a2dfd74761d… (all of the seat's roots in one cut). By AI agents, Wed Nov 11 2026. No macro, syntax, notation, axiom, sorry.
-/
import Derived.Test.YtlnglooomeliiaaChecked
import GoSem.Claim
import GoSem.ClaimJoined
import GoSem.ClaimMapViews
import Derived.JoinedTies
import Derived.KernelRfl
namespace Go.Proofs.Ytlnglooomeliiaa
/- THE CELL 'sum', in the pinned program and in every row, IS THE sha256 OF THE DUMP (.gsa) THAT YtlnglooomeliiaaProg.lean LOADS. Nothing in Lean hashes anything: it is a label: what it is worth is what the hold of that sum in a sandbox is worth. -/
noncomputable def Try.pinned : Pinned := { name := "ytlnglooomeliiaa", sum := "ed640a2dfd74761d44e39094ebf9205ec56e5798c808a78b23404a523460a29f", checked := Try.checked }
namespace Rows
def none {H : Type} : Left H := { results := [], args := [] }

/-- 'laws.FnExactReadLatest': WHATEVER THE INPUT: true; the input reads as it did. -/
def fnExactReadLatestSpec : ChangeSpec := { name := "fnExactReadLatest", fn := fun _ => fun
  | [d1, d2] => { results := [.lit (.bool true)], args := [d1, d2] }
  | _ => none }
def fnExactReadLatestRow : OpenClaim := { program := "ytlnglooomeliiaa", sum := "ed640a2dfd74761d44e39094ebf9205ec56e5798c808a78b23404a523460a29f", func := "loop.example/g01924/laws.FnExactReadLatest", spec := "fnExactReadLatest", unfollowed := true, recurses := true, apart := false }
def FnExactReadLatestSaid : Prop := fnExactReadLatestRow.holds Try.pinned (OpenSpec.ofChange fnExactReadLatestSpec)

/-- ITS FALSE NEIGHBOUR: 'it returns false'. Refute it at one input. -/
def fnExactReadLatestWrong : ChangeSpec := { name := "fnExactReadLatest", fn := fun _ => fun
  | [d1, d2] => { results := [.lit (.bool false)], args := [d1, d2] }
  | _ => none }
def FnExactReadLatestWrongFalsely : Prop := fnExactReadLatestRow.holds Try.pinned (OpenSpec.ofChange fnExactReadLatestWrong)

/-- 'laws.FnExactLastStamp': WHATEVER THE INPUT: true; the input reads as it did. -/
def fnExactLastStampSpec : ChangeSpec := { name := "fnExactLastStamp", fn := fun _ => fun
  | [d] => { results := [.lit (.bool true)], args := [d] }
  | _ => none }
def fnExactLastStampRow : OpenClaim := { program := "ytlnglooomeliiaa", sum := "ed640a2dfd74761d44e39094ebf9205ec56e5798c808a78b23404a523460a29f", func := "loop.example/g01924/laws.FnExactLastStamp", spec := "fnExactLastStamp", unfollowed := true, recurses := true, apart := false }
def FnExactLastStampSaid : Prop := fnExactLastStampRow.holds Try.pinned (OpenSpec.ofChange fnExactLastStampSpec)

/-- ITS FALSE NEIGHBOUR: 'it returns false'. Refute it at one input. -/
def fnExactLastStampWrong : ChangeSpec := { name := "fnExactLastStamp", fn := fun _ => fun
  | [d] => { results := [.lit (.bool false)], args := [d] }
  | _ => none }
def FnExactLastStampWrongFalsely : Prop := fnExactLastStampRow.holds Try.pinned (OpenSpec.ofChange fnExactLastStampWrong)

/-- 'laws.FnExactReadAt': WHATEVER THE INPUT: true; the input reads as it did. -/
def fnExactReadAtSpec : ChangeSpec := { name := "fnExactReadAt", fn := fun _ => fun
  | [d1, d2, d3] => { results := [.lit (.bool true)], args := [d1, d2, d3] }
  | _ => none }
def fnExactReadAtRow : OpenClaim := { program := "ytlnglooomeliiaa", sum := "ed640a2dfd74761d44e39094ebf9205ec56e5798c808a78b23404a523460a29f", func := "loop.example/g01924/laws.FnExactReadAt", spec := "fnExactReadAt", unfollowed := true, recurses := true, apart := false }
def FnExactReadAtSaid : Prop := fnExactReadAtRow.holds Try.pinned (OpenSpec.ofChange fnExactReadAtSpec)

/-- ITS FALSE NEIGHBOUR: 'it returns false'. Refute it at one input. -/
def fnExactReadAtWrong : ChangeSpec := { name := "fnExactReadAt", fn := fun _ => fun
  | [d1, d2, d3] => { results := [.lit (.bool false)], args := [d1, d2, d3] }
  | _ => none }
def FnExactReadAtWrongFalsely : Prop := fnExactReadAtRow.holds Try.pinned (OpenSpec.ofChange fnExactReadAtWrong)

/-- 'laws.FnExactIsValidTransaction': WHATEVER THE INPUT: true; the input reads as it did. -/
def fnExactIsValidTransactionSpec : ChangeSpec := { name := "fnExactIsValidTransaction", fn := fun _ => fun
  | [d] => { results := [.lit (.bool true)], args := [d] }
  | _ => none }
def fnExactIsValidTransactionRow : OpenClaim := { program := "ytlnglooomeliiaa", sum := "ed640a2dfd74761d44e39094ebf9205ec56e5798c808a78b23404a523460a29f", func := "loop.example/g01924/laws.FnExactIsValidTransaction", spec := "fnExactIsValidTransaction", apart := false }
def FnExactIsValidTransactionSaid : Prop := fnExactIsValidTransactionRow.holds Try.pinned (OpenSpec.ofChange fnExactIsValidTransactionSpec)

/-- ITS FALSE NEIGHBOUR: 'it returns false'. Refute it at one input. -/
def fnExactIsValidTransactionWrong : ChangeSpec := { name := "fnExactIsValidTransaction", fn := fun _ => fun
  | [d] => { results := [.lit (.bool false)], args := [d] }
  | _ => none }
def FnExactIsValidTransactionWrongFalsely : Prop := fnExactIsValidTransactionRow.holds Try.pinned (OpenSpec.ofChange fnExactIsValidTransactionWrong)

/-- 'laws.FnExactIsExcluded': WHATEVER THE INPUT: true; the input reads as it did. -/
def fnExactIsExcludedSpec : ChangeSpec := { name := "fnExactIsExcluded", fn := fun _ => fun
  | [d] => { results := [.lit (.bool true)], args := [d] }
  | _ => none }
def fnExactIsExcludedRow : OpenClaim := { program := "ytlnglooomeliiaa", sum := "ed640a2dfd74761d44e39094ebf9205ec56e5798c808a78b23404a523460a29f", func := "loop.example/g01924/laws.FnExactIsExcluded", spec := "fnExactIsExcluded", apart := false }
def FnExactIsExcludedSaid : Prop := fnExactIsExcludedRow.holds Try.pinned (OpenSpec.ofChange fnExactIsExcludedSpec)

/-- ITS FALSE NEIGHBOUR: 'it returns false'. Refute it at one input. -/
def fnExactIsExcludedWrong : ChangeSpec := { name := "fnExactIsExcluded", fn := fun _ => fun
  | [d] => { results := [.lit (.bool false)], args := [d] }
  | _ => none }
def FnExactIsExcludedWrongFalsely : Prop := fnExactIsExcludedRow.holds Try.pinned (OpenSpec.ofChange fnExactIsExcludedWrong)

/-- 'laws.FnExactIsReadOnly': WHATEVER THE INPUT: true; the input reads as it did. -/
def fnExactIsReadOnlySpec : ChangeSpec := { name := "fnExactIsReadOnly", fn := fun _ => fun
  | [d] => { results := [.lit (.bool true)], args := [d] }
  | _ => none }
def fnExactIsReadOnlyRow : OpenClaim := { program := "ytlnglooomeliiaa", sum := "ed640a2dfd74761d44e39094ebf9205ec56e5798c808a78b23404a523460a29f", func := "loop.example/g01924/laws.FnExactIsReadOnly", spec := "fnExactIsReadOnly", apart := false }
def FnExactIsReadOnlySaid : Prop := fnExactIsReadOnlyRow.holds Try.pinned (OpenSpec.ofChange fnExactIsReadOnlySpec)

/-- ITS FALSE NEIGHBOUR: 'it returns false'. Refute it at one input. -/
def fnExactIsReadOnlyWrong : ChangeSpec := { name := "fnExactIsReadOnly", fn := fun _ => fun
  | [d] => { results := [.lit (.bool false)], args := [d] }
  | _ => none }
def FnExactIsReadOnlyWrongFalsely : Prop := fnExactIsReadOnlyRow.holds Try.pinned (OpenSpec.ofChange fnExactIsReadOnlyWrong)

/-- 'laws.FnExactNewTransaction': WHATEVER THE INPUT: true; the input reads as it did. -/
def fnExactNewTransactionSpec : ChangeSpec := { name := "fnExactNewTransaction", fn := fun _ => fun
  | [d1, d2, d3] => { results := [.lit (.bool true)], args := [d1, d2, d3] }
  | _ => none }
def fnExactNewTransactionRow : OpenClaim := { program := "ytlnglooomeliiaa", sum := "ed640a2dfd74761d44e39094ebf9205ec56e5798c808a78b23404a523460a29f", func := "loop.example/g01924/laws.FnExactNewTransaction", spec := "fnExactNewTransaction", apart := false }
def FnExactNewTransactionSaid : Prop := fnExactNewTransactionRow.holds Try.pinned (OpenSpec.ofChange fnExactNewTransactionSpec)

/-- ITS FALSE NEIGHBOUR: 'it returns false'. Refute it at one input. -/
def fnExactNewTransactionWrong : ChangeSpec := { name := "fnExactNewTransaction", fn := fun _ => fun
  | [d1, d2, d3] => { results := [.lit (.bool false)], args := [d1, d2, d3] }
  | _ => none }
def FnExactNewTransactionWrongFalsely : Prop := fnExactNewTransactionRow.holds Try.pinned (OpenSpec.ofChange fnExactNewTransactionWrong)

/-- 'laws.FnExactStateAt': WHATEVER THE INPUT: true; the input reads as it did. -/
def fnExactStateAtSpec : ChangeSpec := { name := "fnExactStateAt", fn := fun _ => fun
  | [d1, d2] => { results := [.lit (.bool true)], args := [d1, d2] }
  | _ => none }
def fnExactStateAtRow : OpenClaim := { program := "ytlnglooomeliiaa", sum := "ed640a2dfd74761d44e39094ebf9205ec56e5798c808a78b23404a523460a29f", func := "loop.example/g01924/laws.FnExactStateAt", spec := "fnExactStateAt", unfollowed := true, recurses := true, apart := false }
def FnExactStateAtSaid : Prop := fnExactStateAtRow.holds Try.pinned (OpenSpec.ofChange fnExactStateAtSpec)

/-- ITS FALSE NEIGHBOUR: 'it returns false'. Refute it at one input. -/
def fnExactStateAtWrong : ChangeSpec := { name := "fnExactStateAt", fn := fun _ => fun
  | [d1, d2] => { results := [.lit (.bool false)], args := [d1, d2] }
  | _ => none }
def FnExactStateAtWrongFalsely : Prop := fnExactStateAtRow.holds Try.pinned (OpenSpec.ofChange fnExactStateAtWrong)

/-- 'laws.FnExactWriteKeys': WHATEVER THE INPUT: true; the input reads as it did. -/
def fnExactWriteKeysSpec : ChangeSpec := { name := "fnExactWriteKeys", fn := fun _ => fun
  | [d] => { results := [.lit (.bool true)], args := [d] }
  | _ => none }
def fnExactWriteKeysRow : OpenClaim := { program := "ytlnglooomeliiaa", sum := "ed640a2dfd74761d44e39094ebf9205ec56e5798c808a78b23404a523460a29f", func := "loop.example/g01924/laws.FnExactWriteKeys", spec := "fnExactWriteKeys", apart := false }
def FnExactWriteKeysSaid : Prop := fnExactWriteKeysRow.holds Try.pinned (OpenSpec.ofChange fnExactWriteKeysSpec)

/-- ITS FALSE NEIGHBOUR: 'it returns false'. Refute it at one input. -/
def fnExactWriteKeysWrong : ChangeSpec := { name := "fnExactWriteKeys", fn := fun _ => fun
  | [d] => { results := [.lit (.bool false)], args := [d] }
  | _ => none }
def FnExactWriteKeysWrongFalsely : Prop := fnExactWriteKeysRow.holds Try.pinned (OpenSpec.ofChange fnExactWriteKeysWrong)

/-- 'laws.FnExactReadsExist': WHATEVER THE INPUT: true; the input reads as it did. -/
def fnExactReadsExistSpec : ChangeSpec := { name := "fnExactReadsExist", fn := fun _ => fun
  | [d1, d2] => { results := [.lit (.bool true)], args := [d1, d2] }
  | _ => none }
def fnExactReadsExistRow : OpenClaim := { program := "ytlnglooomeliiaa", sum := "ed640a2dfd74761d44e39094ebf9205ec56e5798c808a78b23404a523460a29f", func := "loop.example/g01924/laws.FnExactReadsExist", spec := "fnExactReadsExist", unfollowed := true, recurses := true, apart := false }
def FnExactReadsExistSaid : Prop := fnExactReadsExistRow.holds Try.pinned (OpenSpec.ofChange fnExactReadsExistSpec)

/-- ITS FALSE NEIGHBOUR: 'it returns false'. Refute it at one input. -/
def fnExactReadsExistWrong : ChangeSpec := { name := "fnExactReadsExist", fn := fun _ => fun
  | [d1, d2] => { results := [.lit (.bool false)], args := [d1, d2] }
  | _ => none }
def FnExactReadsExistWrongFalsely : Prop := fnExactReadsExistRow.holds Try.pinned (OpenSpec.ofChange fnExactReadsExistWrong)

/-- 'laws.FnExactRefreshLow': WHATEVER THE INPUT: true; the input reads as it did. -/
def fnExactRefreshLowSpec : ChangeSpec := { name := "fnExactRefreshLow", fn := fun _ => fun
  | [d1, d2] => { results := [.lit (.bool true)], args := [d1, d2] }
  | _ => none }
def fnExactRefreshLowRow : OpenClaim := { program := "ytlnglooomeliiaa", sum := "ed640a2dfd74761d44e39094ebf9205ec56e5798c808a78b23404a523460a29f", func := "loop.example/g01924/laws.FnExactRefreshLow", spec := "fnExactRefreshLow", unfollowed := true, recurses := true, apart := false }
def FnExactRefreshLowSaid : Prop := fnExactRefreshLowRow.holds Try.pinned (OpenSpec.ofChange fnExactRefreshLowSpec)

/-- ITS FALSE NEIGHBOUR: 'it returns false'. Refute it at one input. -/
def fnExactRefreshLowWrong : ChangeSpec := { name := "fnExactRefreshLow", fn := fun _ => fun
  | [d1, d2] => { results := [.lit (.bool false)], args := [d1, d2] }
  | _ => none }
def FnExactRefreshLowWrongFalsely : Prop := fnExactRefreshLowRow.holds Try.pinned (OpenSpec.ofChange fnExactRefreshLowWrong)

/-- 'laws.FnExactReadValue': WHATEVER THE INPUT: true; the input reads as it did. -/
def fnExactReadValueSpec : ChangeSpec := { name := "fnExactReadValue", fn := fun _ => fun
  | [d1, d2, d3, d4] => { results := [.lit (.bool true)], args := [d1, d2, d3, d4] }
  | _ => none }
def fnExactReadValueRow : OpenClaim := { program := "ytlnglooomeliiaa", sum := "ed640a2dfd74761d44e39094ebf9205ec56e5798c808a78b23404a523460a29f", func := "loop.example/g01924/laws.FnExactReadValue", spec := "fnExactReadValue", unfollowed := true, recurses := true, apart := false }
def FnExactReadValueSaid : Prop := fnExactReadValueRow.holds Try.pinned (OpenSpec.ofChange fnExactReadValueSpec)

/-- ITS FALSE NEIGHBOUR: 'it returns false'. Refute it at one input. -/
def fnExactReadValueWrong : ChangeSpec := { name := "fnExactReadValue", fn := fun _ => fun
  | [d1, d2, d3, d4] => { results := [.lit (.bool false)], args := [d1, d2, d3, d4] }
  | _ => none }
def FnExactReadValueWrongFalsely : Prop := fnExactReadValueRow.holds Try.pinned (OpenSpec.ofChange fnExactReadValueWrong)

/- THE SECOND FORM. 'bulk': how many values and letters a reading holds, each counted each time it is reached (what is shared counts as often as it is met; a slice's spare places count too). A statement '..UptoSaid' is the law's where the arguments, and the package variables that the reading takes, are together of bulk at most 1048576: NARROWER than '..Said'. Prove '..Said' where nothing that the law and all that it calls make is longer than what came in: it says more and counts as full. Else prove '..UptoSaid'. A law counts once. -/
mutual
def uptoBulk {H : Type} : DataW H → Nat
  | .lit (.string bytes) => bytes.length + 1
  | .lit _ => 1
  | .nil => 1
  | .ptr d => uptoBulk d + 1
  | .slice elems spare => uptoBulkAll elems + uptoBulkAll spare + 1
  | .agg parts => uptoBulkAll parts + 1
  | .iface _ d => uptoBulk d + 1
  | .map entries => uptoBulkEntries entries + 1
  | .held _ => 1
def uptoBulkAll {H : Type} : List (DataW H) → Nat
  | [] => 0
  | d :: r => uptoBulk d + uptoBulkAll r
def uptoBulkEntries {H : Type} : List (Lit × DataW H) → Nat
  | [] => 0
  | x :: r => uptoBulkEntry x + uptoBulkEntries r
def uptoBulkEntry {H : Type} : Lit × DataW H → Nat
  | (.string bytes, d) => bytes.length + uptoBulk d + 1
  | (_, d) => uptoBulk d + 1
 end
def uptoSmall : (H : Type) → List (DataW H) → Bool := fun _ ds => decide (uptoBulkAll ds ≤ 1048576)
def OpenSpec.upto (s : _root_.Go.ChangeSpec) : _root_.Go.OpenSpec := { _root_.Go.OpenSpec.ofChange s with cond := some uptoSmall }

/-- 'laws.FnExactReadLatest', WHERE WHAT IT READS IS OF BULK AT MOST 1048576: true; the input reads as it did. -/
def fnExactReadLatestUptoRow : OpenClaim := { program := "ytlnglooomeliiaa", sum := "ed640a2dfd74761d44e39094ebf9205ec56e5798c808a78b23404a523460a29f", func := "loop.example/g01924/laws.FnExactReadLatest", spec := "fnExactReadLatest", unfollowed := true, recurses := true, apart := false, narrowed := true }
def FnExactReadLatestUptoSaid : Prop := fnExactReadLatestUptoRow.holds Try.pinned (OpenSpec.upto fnExactReadLatestSpec)

/-- 'laws.FnExactLastStamp', WHERE WHAT IT READS IS OF BULK AT MOST 1048576: true; the input reads as it did. -/
def fnExactLastStampUptoRow : OpenClaim := { program := "ytlnglooomeliiaa", sum := "ed640a2dfd74761d44e39094ebf9205ec56e5798c808a78b23404a523460a29f", func := "loop.example/g01924/laws.FnExactLastStamp", spec := "fnExactLastStamp", unfollowed := true, recurses := true, apart := false, narrowed := true }
def FnExactLastStampUptoSaid : Prop := fnExactLastStampUptoRow.holds Try.pinned (OpenSpec.upto fnExactLastStampSpec)

/-- 'laws.FnExactReadAt', WHERE WHAT IT READS IS OF BULK AT MOST 1048576: true; the input reads as it did. -/
def fnExactReadAtUptoRow : OpenClaim := { program := "ytlnglooomeliiaa", sum := "ed640a2dfd74761d44e39094ebf9205ec56e5798c808a78b23404a523460a29f", func := "loop.example/g01924/laws.FnExactReadAt", spec := "fnExactReadAt", unfollowed := true, recurses := true, apart := false, narrowed := true }
def FnExactReadAtUptoSaid : Prop := fnExactReadAtUptoRow.holds Try.pinned (OpenSpec.upto fnExactReadAtSpec)

/-- 'laws.FnExactIsValidTransaction', WHERE WHAT IT READS IS OF BULK AT MOST 1048576: true; the input reads as it did. -/
def fnExactIsValidTransactionUptoRow : OpenClaim := { program := "ytlnglooomeliiaa", sum := "ed640a2dfd74761d44e39094ebf9205ec56e5798c808a78b23404a523460a29f", func := "loop.example/g01924/laws.FnExactIsValidTransaction", spec := "fnExactIsValidTransaction", apart := false, narrowed := true }
def FnExactIsValidTransactionUptoSaid : Prop := fnExactIsValidTransactionUptoRow.holds Try.pinned (OpenSpec.upto fnExactIsValidTransactionSpec)

/-- 'laws.FnExactIsExcluded', WHERE WHAT IT READS IS OF BULK AT MOST 1048576: true; the input reads as it did. -/
def fnExactIsExcludedUptoRow : OpenClaim := { program := "ytlnglooomeliiaa", sum := "ed640a2dfd74761d44e39094ebf9205ec56e5798c808a78b23404a523460a29f", func := "loop.example/g01924/laws.FnExactIsExcluded", spec := "fnExactIsExcluded", apart := false, narrowed := true }
def FnExactIsExcludedUptoSaid : Prop := fnExactIsExcludedUptoRow.holds Try.pinned (OpenSpec.upto fnExactIsExcludedSpec)

/-- 'laws.FnExactIsReadOnly', WHERE WHAT IT READS IS OF BULK AT MOST 1048576: true; the input reads as it did. -/
def fnExactIsReadOnlyUptoRow : OpenClaim := { program := "ytlnglooomeliiaa", sum := "ed640a2dfd74761d44e39094ebf9205ec56e5798c808a78b23404a523460a29f", func := "loop.example/g01924/laws.FnExactIsReadOnly", spec := "fnExactIsReadOnly", apart := false, narrowed := true }
def FnExactIsReadOnlyUptoSaid : Prop := fnExactIsReadOnlyUptoRow.holds Try.pinned (OpenSpec.upto fnExactIsReadOnlySpec)

/-- 'laws.FnExactNewTransaction', WHERE WHAT IT READS IS OF BULK AT MOST 1048576: true; the input reads as it did. -/
def fnExactNewTransactionUptoRow : OpenClaim := { program := "ytlnglooomeliiaa", sum := "ed640a2dfd74761d44e39094ebf9205ec56e5798c808a78b23404a523460a29f", func := "loop.example/g01924/laws.FnExactNewTransaction", spec := "fnExactNewTransaction", apart := false, narrowed := true }
def FnExactNewTransactionUptoSaid : Prop := fnExactNewTransactionUptoRow.holds Try.pinned (OpenSpec.upto fnExactNewTransactionSpec)

/-- 'laws.FnExactStateAt', WHERE WHAT IT READS IS OF BULK AT MOST 1048576: true; the input reads as it did. -/
def fnExactStateAtUptoRow : OpenClaim := { program := "ytlnglooomeliiaa", sum := "ed640a2dfd74761d44e39094ebf9205ec56e5798c808a78b23404a523460a29f", func := "loop.example/g01924/laws.FnExactStateAt", spec := "fnExactStateAt", unfollowed := true, recurses := true, apart := false, narrowed := true }
def FnExactStateAtUptoSaid : Prop := fnExactStateAtUptoRow.holds Try.pinned (OpenSpec.upto fnExactStateAtSpec)

/-- 'laws.FnExactWriteKeys', WHERE WHAT IT READS IS OF BULK AT MOST 1048576: true; the input reads as it did. -/
def fnExactWriteKeysUptoRow : OpenClaim := { program := "ytlnglooomeliiaa", sum := "ed640a2dfd74761d44e39094ebf9205ec56e5798c808a78b23404a523460a29f", func := "loop.example/g01924/laws.FnExactWriteKeys", spec := "fnExactWriteKeys", apart := false, narrowed := true }
def FnExactWriteKeysUptoSaid : Prop := fnExactWriteKeysUptoRow.holds Try.pinned (OpenSpec.upto fnExactWriteKeysSpec)

/-- 'laws.FnExactReadsExist', WHERE WHAT IT READS IS OF BULK AT MOST 1048576: true; the input reads as it did. -/
def fnExactReadsExistUptoRow : OpenClaim := { program := "ytlnglooomeliiaa", sum := "ed640a2dfd74761d44e39094ebf9205ec56e5798c808a78b23404a523460a29f", func := "loop.example/g01924/laws.FnExactReadsExist", spec := "fnExactReadsExist", unfollowed := true, recurses := true, apart := false, narrowed := true }
def FnExactReadsExistUptoSaid : Prop := fnExactReadsExistUptoRow.holds Try.pinned (OpenSpec.upto fnExactReadsExistSpec)

/-- 'laws.FnExactRefreshLow', WHERE WHAT IT READS IS OF BULK AT MOST 1048576: true; the input reads as it did. -/
def fnExactRefreshLowUptoRow : OpenClaim := { program := "ytlnglooomeliiaa", sum := "ed640a2dfd74761d44e39094ebf9205ec56e5798c808a78b23404a523460a29f", func := "loop.example/g01924/laws.FnExactRefreshLow", spec := "fnExactRefreshLow", unfollowed := true, recurses := true, apart := false, narrowed := true }
def FnExactRefreshLowUptoSaid : Prop := fnExactRefreshLowUptoRow.holds Try.pinned (OpenSpec.upto fnExactRefreshLowSpec)

/-- 'laws.FnExactReadValue', WHERE WHAT IT READS IS OF BULK AT MOST 1048576: true; the input reads as it did. -/
def fnExactReadValueUptoRow : OpenClaim := { program := "ytlnglooomeliiaa", sum := "ed640a2dfd74761d44e39094ebf9205ec56e5798c808a78b23404a523460a29f", func := "loop.example/g01924/laws.FnExactReadValue", spec := "fnExactReadValue", unfollowed := true, recurses := true, apart := false, narrowed := true }
def FnExactReadValueUptoSaid : Prop := fnExactReadValueUptoRow.holds Try.pinned (OpenSpec.upto fnExactReadValueSpec)

end Rows
end Go.Proofs.Ytlnglooomeliiaa
