/-
  No cell of these rows narrows 'for every input' (looked for: loops, veiled, ifaces, maps, wideKeys, modest, calm, conditions, laid).
  DERIVED. THE GIVEN ROWS OF THIS SEAT. 7 by the template 'for every input the law returns true; each argument reads behind the call as it read before'; 0 by the template 'total and deterministic' (their statements: YtbcllflajakajaaTotals.lean).
  GIVEN WITH THE SEED: the statements are not yours to turn. If you find one false, say at which input.
  Laid BY PROGRAM, IN A SANDBOX (cutbox-rows.mjs): the forced cells as the released guide's own fill.sh prints them over the translation dda56cd78e8e22eb… (all of the seat's roots in one cut). By AI agents, Wed Nov 11 2026. No macro, syntax, notation, axiom, sorry.
-/
import Derived.Test.YtbcllflajakajaaChecked
import GoSem.Claim
import GoSem.ClaimJoined
import GoSem.ClaimMapViews
import Derived.JoinedTies
import Derived.KernelRfl
namespace Go.Proofs.Ytbcllflajakajaa
/- THE CELL 'sum', in the pinned program and in every row, IS THE sha256 OF THE DUMP (.gsa) THAT YtbcllflajakajaaProg.lean LOADS. Nothing in Lean hashes anything: it is a label: what it is worth is what the hold of that sum in a sandbox is worth. -/
noncomputable def Try.pinned : Pinned := { name := "ytbcllflajakajaa", sum := "dda56cd78e8e22eb4a1accc587286cf357e98ee5863e988271e47fa2595aafcd", checked := Try.checked }
namespace Rows
def none {H : Type} : Left H := { results := [], args := [] }

/-- 'laws.FnExactRefreshHigh': WHATEVER THE INPUT: true; the input reads as it did. -/
def fnExactRefreshHighSpec : ChangeSpec := { name := "fnExactRefreshHigh", fn := fun _ => fun
  | [d1, d2] => { results := [.lit (.bool true)], args := [d1, d2] }
  | _ => none }
def fnExactRefreshHighRow : OpenClaim := { program := "ytbcllflajakajaa", sum := "dda56cd78e8e22eb4a1accc587286cf357e98ee5863e988271e47fa2595aafcd", func := "loop.example/g01924/laws.FnExactRefreshHigh", spec := "fnExactRefreshHigh", unfollowed := true, recurses := true, apart := false }
def FnExactRefreshHighSaid : Prop := fnExactRefreshHighRow.holds Try.pinned (OpenSpec.ofChange fnExactRefreshHighSpec)

/-- ITS FALSE NEIGHBOUR: 'it returns false'. Refute it at one input. -/
def fnExactRefreshHighWrong : ChangeSpec := { name := "fnExactRefreshHigh", fn := fun _ => fun
  | [d1, d2] => { results := [.lit (.bool false)], args := [d1, d2] }
  | _ => none }
def FnExactRefreshHighWrongFalsely : Prop := fnExactRefreshHighRow.holds Try.pinned (OpenSpec.ofChange fnExactRefreshHighWrong)

/-- 'laws.FnExactOverwrittenVersions': WHATEVER THE INPUT: true; the input reads as it did. -/
def fnExactOverwrittenVersionsSpec : ChangeSpec := { name := "fnExactOverwrittenVersions", fn := fun _ => fun
  | [d1, d2] => { results := [.lit (.bool true)], args := [d1, d2] }
  | _ => none }
def fnExactOverwrittenVersionsRow : OpenClaim := { program := "ytbcllflajakajaa", sum := "dda56cd78e8e22eb4a1accc587286cf357e98ee5863e988271e47fa2595aafcd", func := "loop.example/g01924/laws.FnExactOverwrittenVersions", spec := "fnExactOverwrittenVersions", unfollowed := true, recurses := true, apart := false }
def FnExactOverwrittenVersionsSaid : Prop := fnExactOverwrittenVersionsRow.holds Try.pinned (OpenSpec.ofChange fnExactOverwrittenVersionsSpec)

/-- ITS FALSE NEIGHBOUR: 'it returns false'. Refute it at one input. -/
def fnExactOverwrittenVersionsWrong : ChangeSpec := { name := "fnExactOverwrittenVersions", fn := fun _ => fun
  | [d1, d2] => { results := [.lit (.bool false)], args := [d1, d2] }
  | _ => none }
def FnExactOverwrittenVersionsWrongFalsely : Prop := fnExactOverwrittenVersionsRow.holds Try.pinned (OpenSpec.ofChange fnExactOverwrittenVersionsWrong)

/-- 'laws.FnExactFinalWindow': WHATEVER THE INPUT: true; the input reads as it did. -/
def fnExactFinalWindowSpec : ChangeSpec := { name := "fnExactFinalWindow", fn := fun _ => fun
  | [d1, d2, d3] => { results := [.lit (.bool true)], args := [d1, d2, d3] }
  | _ => none }
def fnExactFinalWindowRow : OpenClaim := { program := "ytbcllflajakajaa", sum := "dda56cd78e8e22eb4a1accc587286cf357e98ee5863e988271e47fa2595aafcd", func := "loop.example/g01924/laws.FnExactFinalWindow", spec := "fnExactFinalWindow", unfollowed := true, recurses := true, apart := false }
def FnExactFinalWindowSaid : Prop := fnExactFinalWindowRow.holds Try.pinned (OpenSpec.ofChange fnExactFinalWindowSpec)

/-- ITS FALSE NEIGHBOUR: 'it returns false'. Refute it at one input. -/
def fnExactFinalWindowWrong : ChangeSpec := { name := "fnExactFinalWindow", fn := fun _ => fun
  | [d1, d2, d3] => { results := [.lit (.bool false)], args := [d1, d2, d3] }
  | _ => none }
def FnExactFinalWindowWrongFalsely : Prop := fnExactFinalWindowRow.holds Try.pinned (OpenSpec.ofChange fnExactFinalWindowWrong)

/-- 'laws.FnExactMayCommit': WHATEVER THE INPUT: true; the input reads as it did. -/
def fnExactMayCommitSpec : ChangeSpec := { name := "fnExactMayCommit", fn := fun _ => fun
  | [d1, d2, d3] => { results := [.lit (.bool true)], args := [d1, d2, d3] }
  | _ => none }
def fnExactMayCommitRow : OpenClaim := { program := "ytbcllflajakajaa", sum := "dda56cd78e8e22eb4a1accc587286cf357e98ee5863e988271e47fa2595aafcd", func := "loop.example/g01924/laws.FnExactMayCommit", spec := "fnExactMayCommit", unfollowed := true, recurses := true, apart := false }
def FnExactMayCommitSaid : Prop := fnExactMayCommitRow.holds Try.pinned (OpenSpec.ofChange fnExactMayCommitSpec)

/-- ITS FALSE NEIGHBOUR: 'it returns false'. Refute it at one input. -/
def fnExactMayCommitWrong : ChangeSpec := { name := "fnExactMayCommit", fn := fun _ => fun
  | [d1, d2, d3] => { results := [.lit (.bool false)], args := [d1, d2, d3] }
  | _ => none }
def FnExactMayCommitWrongFalsely : Prop := fnExactMayCommitRow.holds Try.pinned (OpenSpec.ofChange fnExactMayCommitWrong)

/-- 'laws.FnExactWindowRoom': WHATEVER THE INPUT: true; the input reads as it did. -/
def fnExactWindowRoomSpec : ChangeSpec := { name := "fnExactWindowRoom", fn := fun _ => fun
  | [d1, d2, d3] => { results := [.lit (.bool true)], args := [d1, d2, d3] }
  | _ => none }
def fnExactWindowRoomRow : OpenClaim := { program := "ytbcllflajakajaa", sum := "dda56cd78e8e22eb4a1accc587286cf357e98ee5863e988271e47fa2595aafcd", func := "loop.example/g01924/laws.FnExactWindowRoom", spec := "fnExactWindowRoom", unfollowed := true, recurses := true, apart := false }
def FnExactWindowRoomSaid : Prop := fnExactWindowRoomRow.holds Try.pinned (OpenSpec.ofChange fnExactWindowRoomSpec)

/-- ITS FALSE NEIGHBOUR: 'it returns false'. Refute it at one input. -/
def fnExactWindowRoomWrong : ChangeSpec := { name := "fnExactWindowRoom", fn := fun _ => fun
  | [d1, d2, d3] => { results := [.lit (.bool false)], args := [d1, d2, d3] }
  | _ => none }
def FnExactWindowRoomWrongFalsely : Prop := fnExactWindowRoomRow.holds Try.pinned (OpenSpec.ofChange fnExactWindowRoomWrong)

/-- 'laws.FnExactStaleReads': WHATEVER THE INPUT: true; the input reads as it did. -/
def fnExactStaleReadsSpec : ChangeSpec := { name := "fnExactStaleReads", fn := fun _ => fun
  | [d1, d2] => { results := [.lit (.bool true)], args := [d1, d2] }
  | _ => none }
def fnExactStaleReadsRow : OpenClaim := { program := "ytbcllflajakajaa", sum := "dda56cd78e8e22eb4a1accc587286cf357e98ee5863e988271e47fa2595aafcd", func := "loop.example/g01924/laws.FnExactStaleReads", spec := "fnExactStaleReads", unfollowed := true, recurses := true, apart := false }
def FnExactStaleReadsSaid : Prop := fnExactStaleReadsRow.holds Try.pinned (OpenSpec.ofChange fnExactStaleReadsSpec)

/-- ITS FALSE NEIGHBOUR: 'it returns false'. Refute it at one input. -/
def fnExactStaleReadsWrong : ChangeSpec := { name := "fnExactStaleReads", fn := fun _ => fun
  | [d1, d2] => { results := [.lit (.bool false)], args := [d1, d2] }
  | _ => none }
def FnExactStaleReadsWrongFalsely : Prop := fnExactStaleReadsRow.holds Try.pinned (OpenSpec.ofChange fnExactStaleReadsWrong)

/-- 'laws.FnExactExcludingPair': WHATEVER THE INPUT: true; the input reads as it did. -/
def fnExactExcludingPairSpec : ChangeSpec := { name := "fnExactExcludingPair", fn := fun _ => fun
  | [d1, d2, d3] => { results := [.lit (.bool true)], args := [d1, d2, d3] }
  | _ => none }
def fnExactExcludingPairRow : OpenClaim := { program := "ytbcllflajakajaa", sum := "dda56cd78e8e22eb4a1accc587286cf357e98ee5863e988271e47fa2595aafcd", func := "loop.example/g01924/laws.FnExactExcludingPair", spec := "fnExactExcludingPair", unfollowed := true, recurses := true, apart := false }
def FnExactExcludingPairSaid : Prop := fnExactExcludingPairRow.holds Try.pinned (OpenSpec.ofChange fnExactExcludingPairSpec)

/-- ITS FALSE NEIGHBOUR: 'it returns false'. Refute it at one input. -/
def fnExactExcludingPairWrong : ChangeSpec := { name := "fnExactExcludingPair", fn := fun _ => fun
  | [d1, d2, d3] => { results := [.lit (.bool false)], args := [d1, d2, d3] }
  | _ => none }
def FnExactExcludingPairWrongFalsely : Prop := fnExactExcludingPairRow.holds Try.pinned (OpenSpec.ofChange fnExactExcludingPairWrong)

/- THE SECOND FORM. 'bulk': how many values and letters a reading holds, each counted each time it is reached (what is shared counts as often as it is met; a slice's spare places count too). A statement '..UptoSaid' is the law's where the arguments, and the package variables that the reading takes, are together of bulk at most 1048576: NARROWER than '..Said'. Prove '..Said' where nothing that the law and all that it calls make is longer than what came in: it says more and counts as full. Else prove '..UptoSaid'. A law counts once. -/
mutual
def uptoBulk {H : Type} : DataW H → Nat
  | .lit (.string bytes) => bytes.length + 1
  | .lit _ => 1
  | .nil => 1
  | .ptr d => uptoBulk d + 1
  | .slice elems spare => uptoBulkAll elems + uptoBulkAll spare + 1
  | .agg parts => uptoBulkAll parts + 1
  | .iface _ d => uptoBulk d + 1
  | .map entries => uptoBulkEntries entries + 1
  | .held _ => 1
def uptoBulkAll {H : Type} : List (DataW H) → Nat
  | [] => 0
  | d :: r => uptoBulk d + uptoBulkAll r
def uptoBulkEntries {H : Type} : List (Lit × DataW H) → Nat
  | [] => 0
  | x :: r => uptoBulkEntry x + uptoBulkEntries r
def uptoBulkEntry {H : Type} : Lit × DataW H → Nat
  | (.string bytes, d) => bytes.length + uptoBulk d + 1
  | (_, d) => uptoBulk d + 1
 end
def uptoSmall : (H : Type) → List (DataW H) → Bool := fun _ ds => decide (uptoBulkAll ds ≤ 1048576)
def OpenSpec.upto (s : _root_.Go.ChangeSpec) : _root_.Go.OpenSpec := { _root_.Go.OpenSpec.ofChange s with cond := some uptoSmall }

/-- 'laws.FnExactRefreshHigh', WHERE WHAT IT READS IS OF BULK AT MOST 1048576: true; the input reads as it did. -/
def fnExactRefreshHighUptoRow : OpenClaim := { program := "ytbcllflajakajaa", sum := "dda56cd78e8e22eb4a1accc587286cf357e98ee5863e988271e47fa2595aafcd", func := "loop.example/g01924/laws.FnExactRefreshHigh", spec := "fnExactRefreshHigh", unfollowed := true, recurses := true, apart := false, narrowed := true }
def FnExactRefreshHighUptoSaid : Prop := fnExactRefreshHighUptoRow.holds Try.pinned (OpenSpec.upto fnExactRefreshHighSpec)

/-- 'laws.FnExactOverwrittenVersions', WHERE WHAT IT READS IS OF BULK AT MOST 1048576: true; the input reads as it did. -/
def fnExactOverwrittenVersionsUptoRow : OpenClaim := { program := "ytbcllflajakajaa", sum := "dda56cd78e8e22eb4a1accc587286cf357e98ee5863e988271e47fa2595aafcd", func := "loop.example/g01924/laws.FnExactOverwrittenVersions", spec := "fnExactOverwrittenVersions", unfollowed := true, recurses := true, apart := false, narrowed := true }
def FnExactOverwrittenVersionsUptoSaid : Prop := fnExactOverwrittenVersionsUptoRow.holds Try.pinned (OpenSpec.upto fnExactOverwrittenVersionsSpec)

/-- 'laws.FnExactFinalWindow', WHERE WHAT IT READS IS OF BULK AT MOST 1048576: true; the input reads as it did. -/
def fnExactFinalWindowUptoRow : OpenClaim := { program := "ytbcllflajakajaa", sum := "dda56cd78e8e22eb4a1accc587286cf357e98ee5863e988271e47fa2595aafcd", func := "loop.example/g01924/laws.FnExactFinalWindow", spec := "fnExactFinalWindow", unfollowed := true, recurses := true, apart := false, narrowed := true }
def FnExactFinalWindowUptoSaid : Prop := fnExactFinalWindowUptoRow.holds Try.pinned (OpenSpec.upto fnExactFinalWindowSpec)

/-- 'laws.FnExactMayCommit', WHERE WHAT IT READS IS OF BULK AT MOST 1048576: true; the input reads as it did. -/
def fnExactMayCommitUptoRow : OpenClaim := { program := "ytbcllflajakajaa", sum := "dda56cd78e8e22eb4a1accc587286cf357e98ee5863e988271e47fa2595aafcd", func := "loop.example/g01924/laws.FnExactMayCommit", spec := "fnExactMayCommit", unfollowed := true, recurses := true, apart := false, narrowed := true }
def FnExactMayCommitUptoSaid : Prop := fnExactMayCommitUptoRow.holds Try.pinned (OpenSpec.upto fnExactMayCommitSpec)

/-- 'laws.FnExactWindowRoom', WHERE WHAT IT READS IS OF BULK AT MOST 1048576: true; the input reads as it did. -/
def fnExactWindowRoomUptoRow : OpenClaim := { program := "ytbcllflajakajaa", sum := "dda56cd78e8e22eb4a1accc587286cf357e98ee5863e988271e47fa2595aafcd", func := "loop.example/g01924/laws.FnExactWindowRoom", spec := "fnExactWindowRoom", unfollowed := true, recurses := true, apart := false, narrowed := true }
def FnExactWindowRoomUptoSaid : Prop := fnExactWindowRoomUptoRow.holds Try.pinned (OpenSpec.upto fnExactWindowRoomSpec)

/-- 'laws.FnExactStaleReads', WHERE WHAT IT READS IS OF BULK AT MOST 1048576: true; the input reads as it did. -/
def fnExactStaleReadsUptoRow : OpenClaim := { program := "ytbcllflajakajaa", sum := "dda56cd78e8e22eb4a1accc587286cf357e98ee5863e988271e47fa2595aafcd", func := "loop.example/g01924/laws.FnExactStaleReads", spec := "fnExactStaleReads", unfollowed := true, recurses := true, apart := false, narrowed := true }
def FnExactStaleReadsUptoSaid : Prop := fnExactStaleReadsUptoRow.holds Try.pinned (OpenSpec.upto fnExactStaleReadsSpec)

/-- 'laws.FnExactExcludingPair', WHERE WHAT IT READS IS OF BULK AT MOST 1048576: true; the input reads as it did. -/
def fnExactExcludingPairUptoRow : OpenClaim := { program := "ytbcllflajakajaa", sum := "dda56cd78e8e22eb4a1accc587286cf357e98ee5863e988271e47fa2595aafcd", func := "loop.example/g01924/laws.FnExactExcludingPair", spec := "fnExactExcludingPair", unfollowed := true, recurses := true, apart := false, narrowed := true }
def FnExactExcludingPairUptoSaid : Prop := fnExactExcludingPairUptoRow.holds Try.pinned (OpenSpec.upto fnExactExcludingPairSpec)

end Rows
end Go.Proofs.Ytbcllflajakajaa
