/-
  DERIVED. GIVEN WITH THE SEED: THE CARDS: each row of YtacdaekigoldaaaDoorRows.lean that lists a variable, with what it lists TIED to the program's text (the seventh form; the later family's looks); each row that meets fmt, with fmt's text TOLD by the authors' own Lean function (tested against real Go, not proved from fmt's source: count such statements apart). THE CARD IS WHAT COUNTS. Prove the row's statement (the work); the ties are given (YtacdaekigoldaaaDoorTie.lean); close each card by the builder's one call (the guide's Derived/Test/ToyasCard.lean, 'card_holds'). Laid BY PROGRAM, IN A SANDBOX (cutbox-door.mjs). By AI agents, Wed Nov 11 2026. No macro, syntax, notation, axiom, sorry.
-/
import Derived.Test.YtacdaekigoldaaaDoorRows
import GoSem.ClaimSeven
namespace Go.Proofs.YtacdaekigoldaaaDoor
namespace Rows

/-- THE TIED CARD OF 'laws.FnIntegerEncodings'. -/
def fnIntegerEncodingsCard : Claim7 := { stood := { row := fnIntegerEncodingsRow, standIns := [], harness := (true, "a6cf5d133556f4965e04bb15763158c5f483f25d6ba98addceb46fd6a2a1cde8"), looks := true }, kinds := [], alts := [], laidByText := true, laidKinds := [.data, .data, .data, .sentinel, .sentinel], laidTests := true, laidLooks := .later }
def FnIntegerEncodingsCardSaid : Prop := Claim7.holds Tryd.pinned (.plain (OpenSpec.ofChange fnIntegerEncodingsSpec)) fnIntegerEncodingsCard

/-- THE TIED CARD OF 'laws.FnChains'. -/
def fnChainsCard : Claim7 := { stood := { row := fnChainsRow, standIns := [], harness := (true, "a6cf5d133556f4965e04bb15763158c5f483f25d6ba98addceb46fd6a2a1cde8"), looks := true }, kinds := [], alts := [], laidByText := true, laidKinds := [.data, .data, .data, .data, .sentinel, .sentinel, .pinned], laidTests := true, laidLooks := .later }
def FnChainsCardSaid : Prop := Claim7.holds Tryd.pinned (.plain (OpenSpec.ofChange fnChainsSpec)) fnChainsCard

/-- THE TIED CARD OF 'laws.FnStores'. -/
def fnStoresCard : Claim7 := { stood := { row := fnStoresRow, standIns := [], harness := (true, "a6cf5d133556f4965e04bb15763158c5f483f25d6ba98addceb46fd6a2a1cde8"), looks := true }, kinds := [], alts := [], laidByText := true, laidKinds := [.data, .data, .data], laidTests := true, laidLooks := .later }
def FnStoresCardSaid : Prop := Claim7.holds Tryd.pinned (.plain (OpenSpec.ofChange fnStoresSpec)) fnStoresCard

/-- THE SECOND FORM's CARD OF 'laws.FnIntegerEncodings'. -/
def fnIntegerEncodingsUptoCard : Claim7 := { stood := { row := fnIntegerEncodingsUptoRow, standIns := [], harness := (true, "a6cf5d133556f4965e04bb15763158c5f483f25d6ba98addceb46fd6a2a1cde8"), looks := true }, kinds := [], alts := [], laidByText := true, laidKinds := [.data, .data, .data, .sentinel, .sentinel], laidTests := true, laidLooks := .later }
def FnIntegerEncodingsUptoCardSaid : Prop := Claim7.holds Tryd.pinned (.plain (OpenSpec.upto fnIntegerEncodingsSpec)) fnIntegerEncodingsUptoCard

/-- THE SECOND FORM's CARD OF 'laws.FnChains'. -/
def fnChainsUptoCard : Claim7 := { stood := { row := fnChainsUptoRow, standIns := [], harness := (true, "a6cf5d133556f4965e04bb15763158c5f483f25d6ba98addceb46fd6a2a1cde8"), looks := true }, kinds := [], alts := [], laidByText := true, laidKinds := [.data, .data, .data, .data, .sentinel, .sentinel, .pinned], laidTests := true, laidLooks := .later }
def FnChainsUptoCardSaid : Prop := Claim7.holds Tryd.pinned (.plain (OpenSpec.upto fnChainsSpec)) fnChainsUptoCard

/-- THE SECOND FORM's CARD OF 'laws.FnStores'. -/
def fnStoresUptoCard : Claim7 := { stood := { row := fnStoresUptoRow, standIns := [], harness := (true, "a6cf5d133556f4965e04bb15763158c5f483f25d6ba98addceb46fd6a2a1cde8"), looks := true }, kinds := [], alts := [], laidByText := true, laidKinds := [.data, .data, .data], laidTests := true, laidLooks := .later }
def FnStoresUptoCardSaid : Prop := Claim7.holds Tryd.pinned (.plain (OpenSpec.upto fnStoresSpec)) fnStoresUptoCard
end Rows
end Go.Proofs.YtacdaekigoldaaaDoor
