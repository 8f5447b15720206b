/-
  DERIVED. GIVEN WITH THE SEED: THE CARDS: each row of YtmhhnklkcmpdkaaGreatDoorRows.lean that lists a variable, with what it lists TIED to the program's text (the seventh form; the later family's looks); each row that meets fmt, with fmt's text TOLD by the authors' own Lean function (tested against real Go, not proved from fmt's source: count such statements apart). THE CARD IS WHAT COUNTS. Prove the row's statement (the work); the ties are given (YtmhhnklkcmpdkaaGreatDoorTie.lean); close each card by the builder's one call (the guide's Derived/Test/ToyasCard.lean, 'card_holds'). Laid BY PROGRAM, IN A SANDBOX (cutbox-door.mjs). By AI agents, Wed Nov 11 2026. No macro, syntax, notation, axiom, sorry.
-/
import Derived.Test.YtmhhnklkcmpdkaaGreatDoorRows
import GoSem.ClaimSeven
namespace Go.Proofs.YtmhhnklkcmpdkaaGreatDoor
namespace Rows

/-- THE TIED CARD OF 'sealwrightlaw45.ScriptFormat'. -/
def scriptFormatCard : Claim7 := { stood := { row := scriptFormatRow, standIns := [], harness := (true, "bcba8fb281755c48e9fad0cbe06bd2854efc728ad27a33e6d68bcb26a4f0924b"), looks := true }, kinds := [], alts := [], laidByText := true, laidKinds := [.data, .data, .data, .data, .sentinel, .sentinel, .pinned], laidTests := true, laidLooks := .later }
def ScriptFormatCardSaid : Prop := Claim7.holds Tryz.pinned (.plain (OpenSpec.ofChange scriptFormatSpec)) scriptFormatCard

/-- THE TIED CARD OF 'sealwrightlaw45.ScriptRoundTrip'. -/
def scriptRoundTripCard : Claim7 := { stood := { row := scriptRoundTripRow, standIns := [], harness := (true, "bcba8fb281755c48e9fad0cbe06bd2854efc728ad27a33e6d68bcb26a4f0924b"), looks := true }, kinds := [], alts := [], laidByText := true, laidKinds := [.data, .data, .data, .data, .sentinel, .sentinel, .pinned], laidTests := true, laidLooks := .later }
def ScriptRoundTripCardSaid : Prop := Claim7.holds Tryz.pinned (.plain (OpenSpec.ofChange scriptRoundTripSpec)) scriptRoundTripCard

/-- THE TIED CARD OF 'sealwrightlaw45.ScriptParse'. -/
def scriptParseCard : Claim7 := { stood := { row := scriptParseRow, standIns := [], harness := (true, "bcba8fb281755c48e9fad0cbe06bd2854efc728ad27a33e6d68bcb26a4f0924b"), looks := true }, kinds := [], alts := [], laidByText := true, laidKinds := [.data, .data, .data, .data, .sentinel, .sentinel, .pinned], laidTests := true, laidLooks := .later }
def ScriptParseCardSaid : Prop := Claim7.holds Tryz.pinned (.plain (OpenSpec.ofChange scriptParseSpec)) scriptParseCard

/-- THE TIED CARD OF 'sealwrightlaw45.ScriptReport'. -/
def scriptReportCard : Claim7 := { stood := { row := scriptReportRow, standIns := [], harness := (true, "bcba8fb281755c48e9fad0cbe06bd2854efc728ad27a33e6d68bcb26a4f0924b"), looks := true }, kinds := [], alts := [], laidByText := true, laidKinds := [.data, .data, .data, .data, .sentinel, .sentinel, .pinned], laidTests := true, laidLooks := .later }
def ScriptReportCardSaid : Prop := Claim7.holds Tryz.pinned (.plain (OpenSpec.ofChange scriptReportSpec)) scriptReportCard

/-- THE SECOND FORM's CARD OF 'sealwrightlaw45.ScriptFormat'. -/
def scriptFormatUptoCard : Claim7 := { stood := { row := scriptFormatUptoRow, standIns := [], harness := (true, "bcba8fb281755c48e9fad0cbe06bd2854efc728ad27a33e6d68bcb26a4f0924b"), looks := true }, kinds := [], alts := [], laidByText := true, laidKinds := [.data, .data, .data, .data, .sentinel, .sentinel, .pinned], laidTests := true, laidLooks := .later }
def ScriptFormatUptoCardSaid : Prop := Claim7.holds Tryz.pinned (.plain (OpenSpec.upto scriptFormatSpec)) scriptFormatUptoCard

/-- THE SECOND FORM's CARD OF 'sealwrightlaw45.ScriptRoundTrip'. -/
def scriptRoundTripUptoCard : Claim7 := { stood := { row := scriptRoundTripUptoRow, standIns := [], harness := (true, "bcba8fb281755c48e9fad0cbe06bd2854efc728ad27a33e6d68bcb26a4f0924b"), looks := true }, kinds := [], alts := [], laidByText := true, laidKinds := [.data, .data, .data, .data, .sentinel, .sentinel, .pinned], laidTests := true, laidLooks := .later }
def ScriptRoundTripUptoCardSaid : Prop := Claim7.holds Tryz.pinned (.plain (OpenSpec.upto scriptRoundTripSpec)) scriptRoundTripUptoCard

/-- THE SECOND FORM's CARD OF 'sealwrightlaw45.ScriptParse'. -/
def scriptParseUptoCard : Claim7 := { stood := { row := scriptParseUptoRow, standIns := [], harness := (true, "bcba8fb281755c48e9fad0cbe06bd2854efc728ad27a33e6d68bcb26a4f0924b"), looks := true }, kinds := [], alts := [], laidByText := true, laidKinds := [.data, .data, .data, .data, .sentinel, .sentinel, .pinned], laidTests := true, laidLooks := .later }
def ScriptParseUptoCardSaid : Prop := Claim7.holds Tryz.pinned (.plain (OpenSpec.upto scriptParseSpec)) scriptParseUptoCard

/-- THE SECOND FORM's CARD OF 'sealwrightlaw45.ScriptReport'. -/
def scriptReportUptoCard : Claim7 := { stood := { row := scriptReportUptoRow, standIns := [], harness := (true, "bcba8fb281755c48e9fad0cbe06bd2854efc728ad27a33e6d68bcb26a4f0924b"), looks := true }, kinds := [], alts := [], laidByText := true, laidKinds := [.data, .data, .data, .data, .sentinel, .sentinel, .pinned], laidTests := true, laidLooks := .later }
def ScriptReportUptoCardSaid : Prop := Claim7.holds Tryz.pinned (.plain (OpenSpec.upto scriptReportSpec)) scriptReportUptoCard
end Rows
end Go.Proofs.YtmhhnklkcmpdkaaGreatDoor
