/-
  DERIVED. GIVEN WITH THE SEED: THE CARDS: each row of YtdafipacemgcoaaGreatDoorRows.lean that lists a variable, with what it lists TIED to the program's text (the seventh form; the later family's looks); each row that meets fmt, with fmt's text TOLD by the authors' own Lean function (tested against real Go, not proved from fmt's source: count such statements apart). THE CARD IS WHAT COUNTS. Prove the row's statement (the work); the ties are given (YtdafipacemgcoaaGreatDoorTie.lean); close each card by the builder's one call (the guide's Derived/Test/ToyasCard.lean, 'card_holds'). Laid BY PROGRAM, IN A SANDBOX (cutbox-door.mjs). By AI agents, Wed Nov 11 2026. No macro, syntax, notation, axiom, sorry.
-/
import Derived.Test.YtdafipacemgcoaaGreatDoorRows
import GoSem.ClaimSeven
namespace Go.Proofs.YtdafipacemgcoaaGreatDoor
namespace Rows

/-- THE TIED CARD OF 'sealwrightlaw35.MatchExplain'. -/
def matchExplainCard : Claim7 := { stood := { row := matchExplainRow, standIns := [], harness := (true, "f4e60d5a84d709b618e9cf575fd6ab07d8b60e57d675749dd5244b2db0ebed5a"), looks := true }, kinds := [], alts := [], laidByText := true, laidKinds := [.data, .data, .data, .data, .data, .sentinel, .sentinel, .data, .pinned], laidTests := true, laidLooks := .later }
def MatchExplainCardSaid : Prop := Claim7.holds Tryz.pinned (.plain (OpenSpec.ofChange matchExplainSpec)) matchExplainCard

/-- THE TIED CARD OF 'sealwrightlaw35.MatchReasons'. -/
def matchReasonsCard : Claim7 := { stood := { row := matchReasonsRow, standIns := [], harness := (true, "f4e60d5a84d709b618e9cf575fd6ab07d8b60e57d675749dd5244b2db0ebed5a"), looks := true }, kinds := [], alts := [], laidByText := true, laidKinds := [.data, .data, .data, .data, .data, .sentinel, .sentinel, .data, .pinned], laidTests := true, laidLooks := .later }
def MatchReasonsCardSaid : Prop := Claim7.holds Tryz.pinned (.plain (OpenSpec.ofChange matchReasonsSpec)) matchReasonsCard

/-- THE TIED CARD OF 'sealwrightlaw35.MatchCheck'. -/
def matchCheckCard : Claim7 := { stood := { row := matchCheckRow, standIns := [], harness := (true, "f4e60d5a84d709b618e9cf575fd6ab07d8b60e57d675749dd5244b2db0ebed5a"), looks := true }, kinds := [], alts := [], laidByText := true, laidKinds := [.data, .data, .data, .data, .data, .sentinel, .sentinel, .data, .pinned], laidTests := true, laidLooks := .later }
def MatchCheckCardSaid : Prop := Claim7.holds Tryz.pinned (.plain (OpenSpec.ofChange matchCheckSpec)) matchCheckCard

/-- THE TIED CARD OF 'sealwrightlaw35.MatchGround'. -/
def matchGroundCard : Claim7 := { stood := { row := matchGroundRow, standIns := [], harness := (true, "f4e60d5a84d709b618e9cf575fd6ab07d8b60e57d675749dd5244b2db0ebed5a"), looks := true }, kinds := [], alts := [], laidByText := true, laidKinds := [.data, .data, .data, .data, .data, .sentinel, .sentinel, .data, .pinned], laidTests := true, laidLooks := .later }
def MatchGroundCardSaid : Prop := Claim7.holds Tryz.pinned (.plain (OpenSpec.ofChange matchGroundSpec)) matchGroundCard

/-- THE TIED CARD OF 'sealwrightlaw35.MatchMore'. -/
def matchMoreCard : Claim7 := { stood := { row := matchMoreRow, standIns := [], harness := (true, "f4e60d5a84d709b618e9cf575fd6ab07d8b60e57d675749dd5244b2db0ebed5a"), looks := true }, kinds := [], alts := [], laidByText := true, laidKinds := [.data, .data, .data, .data, .data, .sentinel, .sentinel, .data, .pinned], laidTests := true, laidLooks := .later }
def MatchMoreCardSaid : Prop := Claim7.holds Tryz.pinned (.plain (OpenSpec.ofChange matchMoreSpec)) matchMoreCard

/-- THE TIED CARD OF 'sealwrightlaw35.MatchPhase'. -/
def matchPhaseCard : Claim7 := { stood := { row := matchPhaseRow, standIns := [], harness := (true, "f4e60d5a84d709b618e9cf575fd6ab07d8b60e57d675749dd5244b2db0ebed5a"), looks := true }, kinds := [], alts := [], laidByText := true, laidKinds := [.data, .data, .data, .data, .data, .sentinel, .sentinel, .data, .pinned], laidTests := true, laidLooks := .later }
def MatchPhaseCardSaid : Prop := Claim7.holds Tryz.pinned (.plain (OpenSpec.ofChange matchPhaseSpec)) matchPhaseCard

/-- THE TIED CARD OF 'sealwrightlaw35.MatchDescribe'. -/
def matchDescribeCard : Claim7 := { stood := { row := matchDescribeRow, standIns := [], harness := (true, "f4e60d5a84d709b618e9cf575fd6ab07d8b60e57d675749dd5244b2db0ebed5a"), looks := true }, kinds := [], alts := [], laidByText := true, laidKinds := [.data, .data, .data, .data, .data, .sentinel, .sentinel, .data, .pinned], laidTests := true, laidLooks := .later }
def MatchDescribeCardSaid : Prop := Claim7.holds Tryz.pinned (.plain (OpenSpec.ofChange matchDescribeSpec)) matchDescribeCard

/-- THE SECOND FORM's CARD OF 'sealwrightlaw35.MatchExplain'. -/
def matchExplainUptoCard : Claim7 := { stood := { row := matchExplainUptoRow, standIns := [], harness := (true, "f4e60d5a84d709b618e9cf575fd6ab07d8b60e57d675749dd5244b2db0ebed5a"), looks := true }, kinds := [], alts := [], laidByText := true, laidKinds := [.data, .data, .data, .data, .data, .sentinel, .sentinel, .data, .pinned], laidTests := true, laidLooks := .later }
def MatchExplainUptoCardSaid : Prop := Claim7.holds Tryz.pinned (.plain (OpenSpec.upto matchExplainSpec)) matchExplainUptoCard

/-- THE SECOND FORM's CARD OF 'sealwrightlaw35.MatchReasons'. -/
def matchReasonsUptoCard : Claim7 := { stood := { row := matchReasonsUptoRow, standIns := [], harness := (true, "f4e60d5a84d709b618e9cf575fd6ab07d8b60e57d675749dd5244b2db0ebed5a"), looks := true }, kinds := [], alts := [], laidByText := true, laidKinds := [.data, .data, .data, .data, .data, .sentinel, .sentinel, .data, .pinned], laidTests := true, laidLooks := .later }
def MatchReasonsUptoCardSaid : Prop := Claim7.holds Tryz.pinned (.plain (OpenSpec.upto matchReasonsSpec)) matchReasonsUptoCard

/-- THE SECOND FORM's CARD OF 'sealwrightlaw35.MatchCheck'. -/
def matchCheckUptoCard : Claim7 := { stood := { row := matchCheckUptoRow, standIns := [], harness := (true, "f4e60d5a84d709b618e9cf575fd6ab07d8b60e57d675749dd5244b2db0ebed5a"), looks := true }, kinds := [], alts := [], laidByText := true, laidKinds := [.data, .data, .data, .data, .data, .sentinel, .sentinel, .data, .pinned], laidTests := true, laidLooks := .later }
def MatchCheckUptoCardSaid : Prop := Claim7.holds Tryz.pinned (.plain (OpenSpec.upto matchCheckSpec)) matchCheckUptoCard

/-- THE SECOND FORM's CARD OF 'sealwrightlaw35.MatchGround'. -/
def matchGroundUptoCard : Claim7 := { stood := { row := matchGroundUptoRow, standIns := [], harness := (true, "f4e60d5a84d709b618e9cf575fd6ab07d8b60e57d675749dd5244b2db0ebed5a"), looks := true }, kinds := [], alts := [], laidByText := true, laidKinds := [.data, .data, .data, .data, .data, .sentinel, .sentinel, .data, .pinned], laidTests := true, laidLooks := .later }
def MatchGroundUptoCardSaid : Prop := Claim7.holds Tryz.pinned (.plain (OpenSpec.upto matchGroundSpec)) matchGroundUptoCard

/-- THE SECOND FORM's CARD OF 'sealwrightlaw35.MatchMore'. -/
def matchMoreUptoCard : Claim7 := { stood := { row := matchMoreUptoRow, standIns := [], harness := (true, "f4e60d5a84d709b618e9cf575fd6ab07d8b60e57d675749dd5244b2db0ebed5a"), looks := true }, kinds := [], alts := [], laidByText := true, laidKinds := [.data, .data, .data, .data, .data, .sentinel, .sentinel, .data, .pinned], laidTests := true, laidLooks := .later }
def MatchMoreUptoCardSaid : Prop := Claim7.holds Tryz.pinned (.plain (OpenSpec.upto matchMoreSpec)) matchMoreUptoCard

/-- THE SECOND FORM's CARD OF 'sealwrightlaw35.MatchPhase'. -/
def matchPhaseUptoCard : Claim7 := { stood := { row := matchPhaseUptoRow, standIns := [], harness := (true, "f4e60d5a84d709b618e9cf575fd6ab07d8b60e57d675749dd5244b2db0ebed5a"), looks := true }, kinds := [], alts := [], laidByText := true, laidKinds := [.data, .data, .data, .data, .data, .sentinel, .sentinel, .data, .pinned], laidTests := true, laidLooks := .later }
def MatchPhaseUptoCardSaid : Prop := Claim7.holds Tryz.pinned (.plain (OpenSpec.upto matchPhaseSpec)) matchPhaseUptoCard

/-- THE SECOND FORM's CARD OF 'sealwrightlaw35.MatchDescribe'. -/
def matchDescribeUptoCard : Claim7 := { stood := { row := matchDescribeUptoRow, standIns := [], harness := (true, "f4e60d5a84d709b618e9cf575fd6ab07d8b60e57d675749dd5244b2db0ebed5a"), looks := true }, kinds := [], alts := [], laidByText := true, laidKinds := [.data, .data, .data, .data, .data, .sentinel, .sentinel, .data, .pinned], laidTests := true, laidLooks := .later }
def MatchDescribeUptoCardSaid : Prop := Claim7.holds Tryz.pinned (.plain (OpenSpec.upto matchDescribeSpec)) matchDescribeUptoCard
end Rows
end Go.Proofs.YtdafipacemgcoaaGreatDoor
