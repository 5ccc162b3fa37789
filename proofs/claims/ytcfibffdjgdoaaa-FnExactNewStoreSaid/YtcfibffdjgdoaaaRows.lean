/-
  No cell of these rows narrows 'for every input' (looked for: loops, veiled, ifaces, maps, wideKeys, modest, calm, conditions, laid).
  DERIVED. THE GIVEN ROWS OF THIS SEAT. 12 by the template 'for every input the law returns true; each argument reads behind the call as it read before'; 0 by the template 'total and deterministic' (their statements: YtcfibffdjgdoaaaTotals.lean).
  GIVEN WITH THE SEED: the statements are not yours to turn. If you find one false, say at which input.
  Laid BY PROGRAM, IN A SANDBOX (cutbox-rows.mjs): the forced cells as the released guide's own fill.sh prints them over the translation d2a8871fd913d11c… (all of the seat's roots in one cut). By AI agents, Wed Nov 11 2026. No macro, syntax, notation, axiom, sorry.
-/
import Derived.Test.YtcfibffdjgdoaaaChecked
import GoSem.Claim
import GoSem.ClaimJoined
import GoSem.ClaimMapViews
import Derived.JoinedTies
import Derived.KernelRfl
namespace Go.Proofs.Ytcfibffdjgdoaaa
/- THE CELL 'sum', in the pinned program and in every row, IS THE sha256 OF THE DUMP (.gsa) THAT YtcfibffdjgdoaaaProg.lean LOADS. Nothing in Lean hashes anything: it is a label: what it is worth is what the hold of that sum in a sandbox is worth. -/
noncomputable def Try.pinned : Pinned := { name := "ytcfibffdjgdoaaa", sum := "d2a8871fd913d11cba939babeee2aa8ec1714c879c188d7719591156d1038503", checked := Try.checked }
namespace Rows
def none {H : Type} : Left H := { results := [], args := [] }

/-- 'laws.FnExactFindVersion': WHATEVER THE INPUT: true; the input reads as it did. -/
def fnExactFindVersionSpec : ChangeSpec := { name := "fnExactFindVersion", fn := fun _ => fun
  | [d1, d2] => { results := [.lit (.bool true)], args := [d1, d2] }
  | _ => none }
def fnExactFindVersionRow : OpenClaim := { program := "ytcfibffdjgdoaaa", sum := "d2a8871fd913d11cba939babeee2aa8ec1714c879c188d7719591156d1038503", func := "loop.example/g01924/laws.FnExactFindVersion", spec := "fnExactFindVersion", unfollowed := true, recurses := true, apart := false }
def FnExactFindVersionSaid : Prop := fnExactFindVersionRow.holds Try.pinned (OpenSpec.ofChange fnExactFindVersionSpec)

/-- ITS FALSE NEIGHBOUR: 'it returns false'. Refute it at one input. -/
def fnExactFindVersionWrong : ChangeSpec := { name := "fnExactFindVersion", fn := fun _ => fun
  | [d1, d2] => { results := [.lit (.bool false)], args := [d1, d2] }
  | _ => none }
def FnExactFindVersionWrongFalsely : Prop := fnExactFindVersionRow.holds Try.pinned (OpenSpec.ofChange fnExactFindVersionWrong)

/-- 'laws.FnExactEqualChains': WHATEVER THE INPUT: true; the input reads as it did. -/
def fnExactEqualChainsSpec : ChangeSpec := { name := "fnExactEqualChains", fn := fun _ => fun
  | [d1, d2] => { results := [.lit (.bool true)], args := [d1, d2] }
  | _ => none }
def fnExactEqualChainsRow : OpenClaim := { program := "ytcfibffdjgdoaaa", sum := "d2a8871fd913d11cba939babeee2aa8ec1714c879c188d7719591156d1038503", func := "loop.example/g01924/laws.FnExactEqualChains", spec := "fnExactEqualChains", apart := false }
def FnExactEqualChainsSaid : Prop := fnExactEqualChainsRow.holds Try.pinned (OpenSpec.ofChange fnExactEqualChainsSpec)

/-- ITS FALSE NEIGHBOUR: 'it returns false'. Refute it at one input. -/
def fnExactEqualChainsWrong : ChangeSpec := { name := "fnExactEqualChains", fn := fun _ => fun
  | [d1, d2] => { results := [.lit (.bool false)], args := [d1, d2] }
  | _ => none }
def FnExactEqualChainsWrongFalsely : Prop := fnExactEqualChainsRow.holds Try.pinned (OpenSpec.ofChange fnExactEqualChainsWrong)

/-- 'laws.FnExactIsValidChain': WHATEVER THE INPUT: true; the input reads as it did. -/
def fnExactIsValidChainSpec : ChangeSpec := { name := "fnExactIsValidChain", fn := fun _ => fun
  | [d] => { results := [.lit (.bool true)], args := [d] }
  | _ => none }
def fnExactIsValidChainRow : OpenClaim := { program := "ytcfibffdjgdoaaa", sum := "d2a8871fd913d11cba939babeee2aa8ec1714c879c188d7719591156d1038503", func := "loop.example/g01924/laws.FnExactIsValidChain", spec := "fnExactIsValidChain", apart := false }
def FnExactIsValidChainSaid : Prop := fnExactIsValidChainRow.holds Try.pinned (OpenSpec.ofChange fnExactIsValidChainSpec)

/-- ITS FALSE NEIGHBOUR: 'it returns false'. Refute it at one input. -/
def fnExactIsValidChainWrong : ChangeSpec := { name := "fnExactIsValidChain", fn := fun _ => fun
  | [d] => { results := [.lit (.bool false)], args := [d] }
  | _ => none }
def FnExactIsValidChainWrongFalsely : Prop := fnExactIsValidChainRow.holds Try.pinned (OpenSpec.ofChange fnExactIsValidChainWrong)

/-- 'laws.FnExactLatestVersion': WHATEVER THE INPUT: true; the input reads as it did. -/
def fnExactLatestVersionSpec : ChangeSpec := { name := "fnExactLatestVersion", fn := fun _ => fun
  | [d] => { results := [.lit (.bool true)], args := [d] }
  | _ => none }
def fnExactLatestVersionRow : OpenClaim := { program := "ytcfibffdjgdoaaa", sum := "d2a8871fd913d11cba939babeee2aa8ec1714c879c188d7719591156d1038503", func := "loop.example/g01924/laws.FnExactLatestVersion", spec := "fnExactLatestVersion", apart := false }
def FnExactLatestVersionSaid : Prop := fnExactLatestVersionRow.holds Try.pinned (OpenSpec.ofChange fnExactLatestVersionSpec)

/-- ITS FALSE NEIGHBOUR: 'it returns false'. Refute it at one input. -/
def fnExactLatestVersionWrong : ChangeSpec := { name := "fnExactLatestVersion", fn := fun _ => fun
  | [d] => { results := [.lit (.bool false)], args := [d] }
  | _ => none }
def FnExactLatestVersionWrongFalsely : Prop := fnExactLatestVersionRow.holds Try.pinned (OpenSpec.ofChange fnExactLatestVersionWrong)

/-- 'laws.FnExactCountVersions': WHATEVER THE INPUT: true; the input reads as it did. -/
def fnExactCountVersionsSpec : ChangeSpec := { name := "fnExactCountVersions", fn := fun _ => fun
  | [d] => { results := [.lit (.bool true)], args := [d] }
  | _ => none }
def fnExactCountVersionsRow : OpenClaim := { program := "ytcfibffdjgdoaaa", sum := "d2a8871fd913d11cba939babeee2aa8ec1714c879c188d7719591156d1038503", func := "loop.example/g01924/laws.FnExactCountVersions", spec := "fnExactCountVersions", apart := false }
def FnExactCountVersionsSaid : Prop := fnExactCountVersionsRow.holds Try.pinned (OpenSpec.ofChange fnExactCountVersionsSpec)

/-- ITS FALSE NEIGHBOUR: 'it returns false'. Refute it at one input. -/
def fnExactCountVersionsWrong : ChangeSpec := { name := "fnExactCountVersions", fn := fun _ => fun
  | [d] => { results := [.lit (.bool false)], args := [d] }
  | _ => none }
def FnExactCountVersionsWrongFalsely : Prop := fnExactCountVersionsRow.holds Try.pinned (OpenSpec.ofChange fnExactCountVersionsWrong)

/-- 'laws.FnExactVersionAt': WHATEVER THE INPUT: true; the input reads as it did. -/
def fnExactVersionAtSpec : ChangeSpec := { name := "fnExactVersionAt", fn := fun _ => fun
  | [d1, d2] => { results := [.lit (.bool true)], args := [d1, d2] }
  | _ => none }
def fnExactVersionAtRow : OpenClaim := { program := "ytcfibffdjgdoaaa", sum := "d2a8871fd913d11cba939babeee2aa8ec1714c879c188d7719591156d1038503", func := "loop.example/g01924/laws.FnExactVersionAt", spec := "fnExactVersionAt", apart := false }
def FnExactVersionAtSaid : Prop := fnExactVersionAtRow.holds Try.pinned (OpenSpec.ofChange fnExactVersionAtSpec)

/-- ITS FALSE NEIGHBOUR: 'it returns false'. Refute it at one input. -/
def fnExactVersionAtWrong : ChangeSpec := { name := "fnExactVersionAt", fn := fun _ => fun
  | [d1, d2] => { results := [.lit (.bool false)], args := [d1, d2] }
  | _ => none }
def FnExactVersionAtWrongFalsely : Prop := fnExactVersionAtRow.holds Try.pinned (OpenSpec.ofChange fnExactVersionAtWrong)

/-- 'laws.FnExactNewStore': WHATEVER THE INPUT: true; the input reads as it did. -/
def fnExactNewStoreSpec : ChangeSpec := { name := "fnExactNewStore", fn := fun _ => fun
  | [] => { results := [.lit (.bool true)], args := [] }
  | _ => none }
def fnExactNewStoreRow : OpenClaim := { program := "ytcfibffdjgdoaaa", sum := "d2a8871fd913d11cba939babeee2aa8ec1714c879c188d7719591156d1038503", func := "loop.example/g01924/laws.FnExactNewStore", spec := "fnExactNewStore", apart := false }
def FnExactNewStoreSaid : Prop := fnExactNewStoreRow.holds Try.pinned (OpenSpec.ofChange fnExactNewStoreSpec)

/-- ITS FALSE NEIGHBOUR: 'it returns false'. Refute it at one input. -/
def fnExactNewStoreWrong : ChangeSpec := { name := "fnExactNewStore", fn := fun _ => fun
  | [] => { results := [.lit (.bool false)], args := [] }
  | _ => none }
def FnExactNewStoreWrongFalsely : Prop := fnExactNewStoreRow.holds Try.pinned (OpenSpec.ofChange fnExactNewStoreWrong)

/-- 'laws.FnExactEqualStores': WHATEVER THE INPUT: true; the input reads as it did. -/
def fnExactEqualStoresSpec : ChangeSpec := { name := "fnExactEqualStores", fn := fun _ => fun
  | [d1, d2] => { results := [.lit (.bool true)], args := [d1, d2] }
  | _ => none }
def fnExactEqualStoresRow : OpenClaim := { program := "ytcfibffdjgdoaaa", sum := "d2a8871fd913d11cba939babeee2aa8ec1714c879c188d7719591156d1038503", func := "loop.example/g01924/laws.FnExactEqualStores", spec := "fnExactEqualStores", unfollowed := true, recurses := true, apart := false }
def FnExactEqualStoresSaid : Prop := fnExactEqualStoresRow.holds Try.pinned (OpenSpec.ofChange fnExactEqualStoresSpec)

/-- ITS FALSE NEIGHBOUR: 'it returns false'. Refute it at one input. -/
def fnExactEqualStoresWrong : ChangeSpec := { name := "fnExactEqualStores", fn := fun _ => fun
  | [d1, d2] => { results := [.lit (.bool false)], args := [d1, d2] }
  | _ => none }
def FnExactEqualStoresWrongFalsely : Prop := fnExactEqualStoresRow.holds Try.pinned (OpenSpec.ofChange fnExactEqualStoresWrong)

/-- 'laws.FnExactFindWrite': WHATEVER THE INPUT: true; the input reads as it did. -/
def fnExactFindWriteSpec : ChangeSpec := { name := "fnExactFindWrite", fn := fun _ => fun
  | [d1, d2] => { results := [.lit (.bool true)], args := [d1, d2] }
  | _ => none }
def fnExactFindWriteRow : OpenClaim := { program := "ytcfibffdjgdoaaa", sum := "d2a8871fd913d11cba939babeee2aa8ec1714c879c188d7719591156d1038503", func := "loop.example/g01924/laws.FnExactFindWrite", spec := "fnExactFindWrite", unfollowed := true, recurses := true, apart := false }
def FnExactFindWriteSaid : Prop := fnExactFindWriteRow.holds Try.pinned (OpenSpec.ofChange fnExactFindWriteSpec)

/-- ITS FALSE NEIGHBOUR: 'it returns false'. Refute it at one input. -/
def fnExactFindWriteWrong : ChangeSpec := { name := "fnExactFindWrite", fn := fun _ => fun
  | [d1, d2] => { results := [.lit (.bool false)], args := [d1, d2] }
  | _ => none }
def FnExactFindWriteWrongFalsely : Prop := fnExactFindWriteRow.holds Try.pinned (OpenSpec.ofChange fnExactFindWriteWrong)

/-- 'laws.FnExactHasRead': WHATEVER THE INPUT: true; the input reads as it did. -/
def fnExactHasReadSpec : ChangeSpec := { name := "fnExactHasRead", fn := fun _ => fun
  | [d1, d2] => { results := [.lit (.bool true)], args := [d1, d2] }
  | _ => none }
def fnExactHasReadRow : OpenClaim := { program := "ytcfibffdjgdoaaa", sum := "d2a8871fd913d11cba939babeee2aa8ec1714c879c188d7719591156d1038503", func := "loop.example/g01924/laws.FnExactHasRead", spec := "fnExactHasRead", apart := false }
def FnExactHasReadSaid : Prop := fnExactHasReadRow.holds Try.pinned (OpenSpec.ofChange fnExactHasReadSpec)

/-- ITS FALSE NEIGHBOUR: 'it returns false'. Refute it at one input. -/
def fnExactHasReadWrong : ChangeSpec := { name := "fnExactHasRead", fn := fun _ => fun
  | [d1, d2] => { results := [.lit (.bool false)], args := [d1, d2] }
  | _ => none }
def FnExactHasReadWrongFalsely : Prop := fnExactHasReadRow.holds Try.pinned (OpenSpec.ofChange fnExactHasReadWrong)

/-- 'laws.FnExactIsValidStore': WHATEVER THE INPUT: true; the input reads as it did. -/
def fnExactIsValidStoreSpec : ChangeSpec := { name := "fnExactIsValidStore", fn := fun _ => fun
  | [d] => { results := [.lit (.bool true)], args := [d] }
  | _ => none }
def fnExactIsValidStoreRow : OpenClaim := { program := "ytcfibffdjgdoaaa", sum := "d2a8871fd913d11cba939babeee2aa8ec1714c879c188d7719591156d1038503", func := "loop.example/g01924/laws.FnExactIsValidStore", spec := "fnExactIsValidStore", unfollowed := true, recurses := true, apart := false }
def FnExactIsValidStoreSaid : Prop := fnExactIsValidStoreRow.holds Try.pinned (OpenSpec.ofChange fnExactIsValidStoreSpec)

/-- ITS FALSE NEIGHBOUR: 'it returns false'. Refute it at one input. -/
def fnExactIsValidStoreWrong : ChangeSpec := { name := "fnExactIsValidStore", fn := fun _ => fun
  | [d] => { results := [.lit (.bool false)], args := [d] }
  | _ => none }
def FnExactIsValidStoreWrongFalsely : Prop := fnExactIsValidStoreRow.holds Try.pinned (OpenSpec.ofChange fnExactIsValidStoreWrong)

/-- 'laws.FnExactEqualTransactions': WHATEVER THE INPUT: true; the input reads as it did. -/
def fnExactEqualTransactionsSpec : ChangeSpec := { name := "fnExactEqualTransactions", fn := fun _ => fun
  | [d1, d2] => { results := [.lit (.bool true)], args := [d1, d2] }
  | _ => none }
def fnExactEqualTransactionsRow : OpenClaim := { program := "ytcfibffdjgdoaaa", sum := "d2a8871fd913d11cba939babeee2aa8ec1714c879c188d7719591156d1038503", func := "loop.example/g01924/laws.FnExactEqualTransactions", spec := "fnExactEqualTransactions", apart := false }
def FnExactEqualTransactionsSaid : Prop := fnExactEqualTransactionsRow.holds Try.pinned (OpenSpec.ofChange fnExactEqualTransactionsSpec)

/-- ITS FALSE NEIGHBOUR: 'it returns false'. Refute it at one input. -/
def fnExactEqualTransactionsWrong : ChangeSpec := { name := "fnExactEqualTransactions", fn := fun _ => fun
  | [d1, d2] => { results := [.lit (.bool false)], args := [d1, d2] }
  | _ => none }
def FnExactEqualTransactionsWrongFalsely : Prop := fnExactEqualTransactionsRow.holds Try.pinned (OpenSpec.ofChange fnExactEqualTransactionsWrong)

/- THE SECOND FORM. 'bulk': how many values and letters a reading holds, each counted each time it is reached (what is shared counts as often as it is met; a slice's spare places count too). A statement '..UptoSaid' is the law's where the arguments, and the package variables that the reading takes, are together of bulk at most 1048576: NARROWER than '..Said'. Prove '..Said' where nothing that the law and all that it calls make is longer than what came in: it says more and counts as full. Else prove '..UptoSaid'. A law counts once. -/
mutual
def uptoBulk {H : Type} : DataW H → Nat
  | .lit (.string bytes) => bytes.length + 1
  | .lit _ => 1
  | .nil => 1
  | .ptr d => uptoBulk d + 1
  | .slice elems spare => uptoBulkAll elems + uptoBulkAll spare + 1
  | .agg parts => uptoBulkAll parts + 1
  | .iface _ d => uptoBulk d + 1
  | .map entries => uptoBulkEntries entries + 1
  | .held _ => 1
def uptoBulkAll {H : Type} : List (DataW H) → Nat
  | [] => 0
  | d :: r => uptoBulk d + uptoBulkAll r
def uptoBulkEntries {H : Type} : List (Lit × DataW H) → Nat
  | [] => 0
  | x :: r => uptoBulkEntry x + uptoBulkEntries r
def uptoBulkEntry {H : Type} : Lit × DataW H → Nat
  | (.string bytes, d) => bytes.length + uptoBulk d + 1
  | (_, d) => uptoBulk d + 1
 end
def uptoSmall : (H : Type) → List (DataW H) → Bool := fun _ ds => decide (uptoBulkAll ds ≤ 1048576)
def OpenSpec.upto (s : _root_.Go.ChangeSpec) : _root_.Go.OpenSpec := { _root_.Go.OpenSpec.ofChange s with cond := some uptoSmall }

/-- 'laws.FnExactFindVersion', WHERE WHAT IT READS IS OF BULK AT MOST 1048576: true; the input reads as it did. -/
def fnExactFindVersionUptoRow : OpenClaim := { program := "ytcfibffdjgdoaaa", sum := "d2a8871fd913d11cba939babeee2aa8ec1714c879c188d7719591156d1038503", func := "loop.example/g01924/laws.FnExactFindVersion", spec := "fnExactFindVersion", unfollowed := true, recurses := true, apart := false, narrowed := true }
def FnExactFindVersionUptoSaid : Prop := fnExactFindVersionUptoRow.holds Try.pinned (OpenSpec.upto fnExactFindVersionSpec)

/-- 'laws.FnExactEqualChains', WHERE WHAT IT READS IS OF BULK AT MOST 1048576: true; the input reads as it did. -/
def fnExactEqualChainsUptoRow : OpenClaim := { program := "ytcfibffdjgdoaaa", sum := "d2a8871fd913d11cba939babeee2aa8ec1714c879c188d7719591156d1038503", func := "loop.example/g01924/laws.FnExactEqualChains", spec := "fnExactEqualChains", apart := false, narrowed := true }
def FnExactEqualChainsUptoSaid : Prop := fnExactEqualChainsUptoRow.holds Try.pinned (OpenSpec.upto fnExactEqualChainsSpec)

/-- 'laws.FnExactIsValidChain', WHERE WHAT IT READS IS OF BULK AT MOST 1048576: true; the input reads as it did. -/
def fnExactIsValidChainUptoRow : OpenClaim := { program := "ytcfibffdjgdoaaa", sum := "d2a8871fd913d11cba939babeee2aa8ec1714c879c188d7719591156d1038503", func := "loop.example/g01924/laws.FnExactIsValidChain", spec := "fnExactIsValidChain", apart := false, narrowed := true }
def FnExactIsValidChainUptoSaid : Prop := fnExactIsValidChainUptoRow.holds Try.pinned (OpenSpec.upto fnExactIsValidChainSpec)

/-- 'laws.FnExactLatestVersion', WHERE WHAT IT READS IS OF BULK AT MOST 1048576: true; the input reads as it did. -/
def fnExactLatestVersionUptoRow : OpenClaim := { program := "ytcfibffdjgdoaaa", sum := "d2a8871fd913d11cba939babeee2aa8ec1714c879c188d7719591156d1038503", func := "loop.example/g01924/laws.FnExactLatestVersion", spec := "fnExactLatestVersion", apart := false, narrowed := true }
def FnExactLatestVersionUptoSaid : Prop := fnExactLatestVersionUptoRow.holds Try.pinned (OpenSpec.upto fnExactLatestVersionSpec)

/-- 'laws.FnExactCountVersions', WHERE WHAT IT READS IS OF BULK AT MOST 1048576: true; the input reads as it did. -/
def fnExactCountVersionsUptoRow : OpenClaim := { program := "ytcfibffdjgdoaaa", sum := "d2a8871fd913d11cba939babeee2aa8ec1714c879c188d7719591156d1038503", func := "loop.example/g01924/laws.FnExactCountVersions", spec := "fnExactCountVersions", apart := false, narrowed := true }
def FnExactCountVersionsUptoSaid : Prop := fnExactCountVersionsUptoRow.holds Try.pinned (OpenSpec.upto fnExactCountVersionsSpec)

/-- 'laws.FnExactVersionAt', WHERE WHAT IT READS IS OF BULK AT MOST 1048576: true; the input reads as it did. -/
def fnExactVersionAtUptoRow : OpenClaim := { program := "ytcfibffdjgdoaaa", sum := "d2a8871fd913d11cba939babeee2aa8ec1714c879c188d7719591156d1038503", func := "loop.example/g01924/laws.FnExactVersionAt", spec := "fnExactVersionAt", apart := false, narrowed := true }
def FnExactVersionAtUptoSaid : Prop := fnExactVersionAtUptoRow.holds Try.pinned (OpenSpec.upto fnExactVersionAtSpec)

/-- 'laws.FnExactNewStore', WHERE WHAT IT READS IS OF BULK AT MOST 1048576: true; the input reads as it did. -/
def fnExactNewStoreUptoRow : OpenClaim := { program := "ytcfibffdjgdoaaa", sum := "d2a8871fd913d11cba939babeee2aa8ec1714c879c188d7719591156d1038503", func := "loop.example/g01924/laws.FnExactNewStore", spec := "fnExactNewStore", apart := false, narrowed := true }
def FnExactNewStoreUptoSaid : Prop := fnExactNewStoreUptoRow.holds Try.pinned (OpenSpec.upto fnExactNewStoreSpec)

/-- 'laws.FnExactEqualStores', WHERE WHAT IT READS IS OF BULK AT MOST 1048576: true; the input reads as it did. -/
def fnExactEqualStoresUptoRow : OpenClaim := { program := "ytcfibffdjgdoaaa", sum := "d2a8871fd913d11cba939babeee2aa8ec1714c879c188d7719591156d1038503", func := "loop.example/g01924/laws.FnExactEqualStores", spec := "fnExactEqualStores", unfollowed := true, recurses := true, apart := false, narrowed := true }
def FnExactEqualStoresUptoSaid : Prop := fnExactEqualStoresUptoRow.holds Try.pinned (OpenSpec.upto fnExactEqualStoresSpec)

/-- 'laws.FnExactFindWrite', WHERE WHAT IT READS IS OF BULK AT MOST 1048576: true; the input reads as it did. -/
def fnExactFindWriteUptoRow : OpenClaim := { program := "ytcfibffdjgdoaaa", sum := "d2a8871fd913d11cba939babeee2aa8ec1714c879c188d7719591156d1038503", func := "loop.example/g01924/laws.FnExactFindWrite", spec := "fnExactFindWrite", unfollowed := true, recurses := true, apart := false, narrowed := true }
def FnExactFindWriteUptoSaid : Prop := fnExactFindWriteUptoRow.holds Try.pinned (OpenSpec.upto fnExactFindWriteSpec)

/-- 'laws.FnExactHasRead', WHERE WHAT IT READS IS OF BULK AT MOST 1048576: true; the input reads as it did. -/
def fnExactHasReadUptoRow : OpenClaim := { program := "ytcfibffdjgdoaaa", sum := "d2a8871fd913d11cba939babeee2aa8ec1714c879c188d7719591156d1038503", func := "loop.example/g01924/laws.FnExactHasRead", spec := "fnExactHasRead", apart := false, narrowed := true }
def FnExactHasReadUptoSaid : Prop := fnExactHasReadUptoRow.holds Try.pinned (OpenSpec.upto fnExactHasReadSpec)

/-- 'laws.FnExactIsValidStore', WHERE WHAT IT READS IS OF BULK AT MOST 1048576: true; the input reads as it did. -/
def fnExactIsValidStoreUptoRow : OpenClaim := { program := "ytcfibffdjgdoaaa", sum := "d2a8871fd913d11cba939babeee2aa8ec1714c879c188d7719591156d1038503", func := "loop.example/g01924/laws.FnExactIsValidStore", spec := "fnExactIsValidStore", unfollowed := true, recurses := true, apart := false, narrowed := true }
def FnExactIsValidStoreUptoSaid : Prop := fnExactIsValidStoreUptoRow.holds Try.pinned (OpenSpec.upto fnExactIsValidStoreSpec)

/-- 'laws.FnExactEqualTransactions', WHERE WHAT IT READS IS OF BULK AT MOST 1048576: true; the input reads as it did. -/
def fnExactEqualTransactionsUptoRow : OpenClaim := { program := "ytcfibffdjgdoaaa", sum := "d2a8871fd913d11cba939babeee2aa8ec1714c879c188d7719591156d1038503", func := "loop.example/g01924/laws.FnExactEqualTransactions", spec := "fnExactEqualTransactions", apart := false, narrowed := true }
def FnExactEqualTransactionsUptoSaid : Prop := fnExactEqualTransactionsUptoRow.holds Try.pinned (OpenSpec.upto fnExactEqualTransactionsSpec)

end Rows
end Go.Proofs.Ytcfibffdjgdoaaa
