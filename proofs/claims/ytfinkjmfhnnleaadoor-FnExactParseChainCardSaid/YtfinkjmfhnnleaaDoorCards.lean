/-
  DERIVED. GIVEN WITH THE SEED: THE CARDS: each row of YtfinkjmfhnnleaaDoorRows.lean that lists a variable, with what it lists TIED to the program's text (the seventh form; the later family's looks); each row that meets fmt, with fmt's text TOLD by the authors' own Lean function (tested against real Go, not proved from fmt's source: count such statements apart). THE CARD IS WHAT COUNTS. Prove the row's statement (the work); the ties are given (YtfinkjmfhnnleaaDoorTie.lean); close each card by the builder's one call (the guide's Derived/Test/ToyasCard.lean, 'card_holds'). Laid BY PROGRAM, IN A SANDBOX (cutbox-door.mjs). By AI agents, Wed Nov 11 2026. No macro, syntax, notation, axiom, sorry.
-/
import Derived.Test.YtfinkjmfhnnleaaDoorRows
import GoSem.ClaimSeven
namespace Go.Proofs.YtfinkjmfhnnleaaDoor
namespace Rows

/-- THE TIED CARD OF 'laws.FnExactFormatInt'. -/
def fnExactFormatIntCard : Claim7 := { stood := { row := fnExactFormatIntRow, standIns := [], harness := (true, "16dadeff5c0876bf1b643c0092ac7d888d27b405211cb4750fe6922709472259"), looks := true }, kinds := [], alts := [], laidByText := true, laidKinds := [.data, .data, .data], laidTests := true, laidLooks := .later }
def FnExactFormatIntCardSaid : Prop := Claim7.holds Tryd.pinned (.plain (OpenSpec.ofChange fnExactFormatIntSpec)) fnExactFormatIntCard

/-- THE TIED CARD OF 'laws.FnExactFormatMark'. -/
def fnExactFormatMarkCard : Claim7 := { stood := { row := fnExactFormatMarkRow, standIns := [], harness := (true, "16dadeff5c0876bf1b643c0092ac7d888d27b405211cb4750fe6922709472259"), looks := true }, kinds := [], alts := [], laidByText := true, laidKinds := [.data, .data, .data], laidTests := true, laidLooks := .later }
def FnExactFormatMarkCardSaid : Prop := Claim7.holds Tryd.pinned (.plain (OpenSpec.ofChange fnExactFormatMarkSpec)) fnExactFormatMarkCard

/-- THE TIED CARD OF 'laws.FnExactFormatState'. -/
def fnExactFormatStateCard : Claim7 := { stood := { row := fnExactFormatStateRow, standIns := [], harness := (true, "16dadeff5c0876bf1b643c0092ac7d888d27b405211cb4750fe6922709472259"), looks := true }, kinds := [], alts := [], laidByText := true, laidKinds := [.data, .data, .data], laidTests := true, laidLooks := .later }
def FnExactFormatStateCardSaid : Prop := Claim7.holds Tryd.pinned (.plain (OpenSpec.ofChange fnExactFormatStateSpec)) fnExactFormatStateCard

/-- THE TIED CARD OF 'laws.FnExactFormatChain'. -/
def fnExactFormatChainCard : Claim7 := { stood := { row := fnExactFormatChainRow, standIns := [], harness := (true, "16dadeff5c0876bf1b643c0092ac7d888d27b405211cb4750fe6922709472259"), looks := true }, kinds := [], alts := [], laidByText := true, laidKinds := [.data, .data, .data], laidTests := true, laidLooks := .later }
def FnExactFormatChainCardSaid : Prop := Claim7.holds Tryd.pinned (.plain (OpenSpec.ofChange fnExactFormatChainSpec)) fnExactFormatChainCard

/-- THE TIED CARD OF 'laws.FnExactParseInt'. -/
def fnExactParseIntCard : Claim7 := { stood := { row := fnExactParseIntRow, standIns := [], harness := (true, "16dadeff5c0876bf1b643c0092ac7d888d27b405211cb4750fe6922709472259"), looks := true }, kinds := [], alts := [], laidByText := true, laidKinds := [.data, .data, .data, .sentinel, .sentinel], laidTests := true, laidLooks := .later }
def FnExactParseIntCardSaid : Prop := Claim7.holds Tryd.pinned (.plain (OpenSpec.ofChange fnExactParseIntSpec)) fnExactParseIntCard

/-- THE TIED CARD OF 'laws.FnExactParseMark'. -/
def fnExactParseMarkCard : Claim7 := { stood := { row := fnExactParseMarkRow, standIns := [], harness := (true, "16dadeff5c0876bf1b643c0092ac7d888d27b405211cb4750fe6922709472259"), looks := true }, kinds := [], alts := [], laidByText := true, laidKinds := [.data, .data, .data, .sentinel, .sentinel], laidTests := true, laidLooks := .later }
def FnExactParseMarkCardSaid : Prop := Claim7.holds Tryd.pinned (.plain (OpenSpec.ofChange fnExactParseMarkSpec)) fnExactParseMarkCard

/-- THE TIED CARD OF 'laws.FnExactParseChain'. -/
def fnExactParseChainCard : Claim7 := { stood := { row := fnExactParseChainRow, standIns := [], harness := (true, "16dadeff5c0876bf1b643c0092ac7d888d27b405211cb4750fe6922709472259"), looks := true }, kinds := [], alts := [], laidByText := true, laidKinds := [.data, .data, .data, .data, .sentinel, .sentinel, .pinned], laidTests := true, laidLooks := .later }
def FnExactParseChainCardSaid : Prop := Claim7.holds Tryd.pinned (.plain (OpenSpec.ofChange fnExactParseChainSpec)) fnExactParseChainCard

/-- THE SECOND FORM's CARD OF 'laws.FnExactFormatInt'. -/
def fnExactFormatIntUptoCard : Claim7 := { stood := { row := fnExactFormatIntUptoRow, standIns := [], harness := (true, "16dadeff5c0876bf1b643c0092ac7d888d27b405211cb4750fe6922709472259"), looks := true }, kinds := [], alts := [], laidByText := true, laidKinds := [.data, .data, .data], laidTests := true, laidLooks := .later }
def FnExactFormatIntUptoCardSaid : Prop := Claim7.holds Tryd.pinned (.plain (OpenSpec.upto fnExactFormatIntSpec)) fnExactFormatIntUptoCard

/-- THE SECOND FORM's CARD OF 'laws.FnExactFormatMark'. -/
def fnExactFormatMarkUptoCard : Claim7 := { stood := { row := fnExactFormatMarkUptoRow, standIns := [], harness := (true, "16dadeff5c0876bf1b643c0092ac7d888d27b405211cb4750fe6922709472259"), looks := true }, kinds := [], alts := [], laidByText := true, laidKinds := [.data, .data, .data], laidTests := true, laidLooks := .later }
def FnExactFormatMarkUptoCardSaid : Prop := Claim7.holds Tryd.pinned (.plain (OpenSpec.upto fnExactFormatMarkSpec)) fnExactFormatMarkUptoCard

/-- THE SECOND FORM's CARD OF 'laws.FnExactFormatState'. -/
def fnExactFormatStateUptoCard : Claim7 := { stood := { row := fnExactFormatStateUptoRow, standIns := [], harness := (true, "16dadeff5c0876bf1b643c0092ac7d888d27b405211cb4750fe6922709472259"), looks := true }, kinds := [], alts := [], laidByText := true, laidKinds := [.data, .data, .data], laidTests := true, laidLooks := .later }
def FnExactFormatStateUptoCardSaid : Prop := Claim7.holds Tryd.pinned (.plain (OpenSpec.upto fnExactFormatStateSpec)) fnExactFormatStateUptoCard

/-- THE SECOND FORM's CARD OF 'laws.FnExactFormatChain'. -/
def fnExactFormatChainUptoCard : Claim7 := { stood := { row := fnExactFormatChainUptoRow, standIns := [], harness := (true, "16dadeff5c0876bf1b643c0092ac7d888d27b405211cb4750fe6922709472259"), looks := true }, kinds := [], alts := [], laidByText := true, laidKinds := [.data, .data, .data], laidTests := true, laidLooks := .later }
def FnExactFormatChainUptoCardSaid : Prop := Claim7.holds Tryd.pinned (.plain (OpenSpec.upto fnExactFormatChainSpec)) fnExactFormatChainUptoCard

/-- THE SECOND FORM's CARD OF 'laws.FnExactParseInt'. -/
def fnExactParseIntUptoCard : Claim7 := { stood := { row := fnExactParseIntUptoRow, standIns := [], harness := (true, "16dadeff5c0876bf1b643c0092ac7d888d27b405211cb4750fe6922709472259"), looks := true }, kinds := [], alts := [], laidByText := true, laidKinds := [.data, .data, .data, .sentinel, .sentinel], laidTests := true, laidLooks := .later }
def FnExactParseIntUptoCardSaid : Prop := Claim7.holds Tryd.pinned (.plain (OpenSpec.upto fnExactParseIntSpec)) fnExactParseIntUptoCard

/-- THE SECOND FORM's CARD OF 'laws.FnExactParseMark'. -/
def fnExactParseMarkUptoCard : Claim7 := { stood := { row := fnExactParseMarkUptoRow, standIns := [], harness := (true, "16dadeff5c0876bf1b643c0092ac7d888d27b405211cb4750fe6922709472259"), looks := true }, kinds := [], alts := [], laidByText := true, laidKinds := [.data, .data, .data, .sentinel, .sentinel], laidTests := true, laidLooks := .later }
def FnExactParseMarkUptoCardSaid : Prop := Claim7.holds Tryd.pinned (.plain (OpenSpec.upto fnExactParseMarkSpec)) fnExactParseMarkUptoCard

/-- THE SECOND FORM's CARD OF 'laws.FnExactParseChain'. -/
def fnExactParseChainUptoCard : Claim7 := { stood := { row := fnExactParseChainUptoRow, standIns := [], harness := (true, "16dadeff5c0876bf1b643c0092ac7d888d27b405211cb4750fe6922709472259"), looks := true }, kinds := [], alts := [], laidByText := true, laidKinds := [.data, .data, .data, .data, .sentinel, .sentinel, .pinned], laidTests := true, laidLooks := .later }
def FnExactParseChainUptoCardSaid : Prop := Claim7.holds Tryd.pinned (.plain (OpenSpec.upto fnExactParseChainSpec)) fnExactParseChainUptoCard
end Rows
end Go.Proofs.YtfinkjmfhnnleaaDoor
