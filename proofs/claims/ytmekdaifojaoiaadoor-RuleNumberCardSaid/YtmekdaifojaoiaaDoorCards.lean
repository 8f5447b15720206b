/-
  DERIVED. GIVEN WITH THE SEED: THE CARDS: each row of YtmekdaifojaoiaaDoorRows.lean that lists a variable, with what it lists TIED to the program's text (the seventh form; the later family's looks); each row that meets fmt, with fmt's text TOLD by the authors' own Lean function (tested against real Go, not proved from fmt's source: count such statements apart). THE CARD IS WHAT COUNTS. Prove the row's statement (the work); the ties are given (YtmekdaifojaoiaaDoorTie.lean); close each card by the builder's one call (the guide's Derived/Test/ToyasCard.lean, 'card_holds'). Laid BY PROGRAM, IN A SANDBOX (cutbox-door.mjs). By AI agents, Wed Nov 11 2026. No macro, syntax, notation, axiom, sorry.
-/
import Derived.Test.YtmekdaifojaoiaaDoorRows
import GoSem.ClaimSeven
namespace Go.Proofs.YtmekdaifojaoiaaDoor
namespace Rows

/-- THE TIED CARD OF 'sealwrightlaw31.RuleCheck'. -/
def ruleCheckCard : Claim7 := { stood := { row := ruleCheckRow, standIns := [], harness := (true, "ddf1e42046a5e11f8d581097d719dc14e0199294e29a568797ffc4fc62366ceb"), looks := true }, kinds := [], alts := [], laidByText := true, laidKinds := [.data, .data, .data, .data, .sentinel, .sentinel, .pinned], laidTests := true, laidLooks := .later }
def RuleCheckCardSaid : Prop := Claim7.holds Tryd.pinned (.plain (OpenSpec.ofChange ruleCheckSpec)) ruleCheckCard

/-- THE TIED CARD OF 'sealwrightlaw31.GlobMatch'. -/
def globMatchCard : Claim7 := { stood := { row := globMatchRow, standIns := [], harness := (true, "ddf1e42046a5e11f8d581097d719dc14e0199294e29a568797ffc4fc62366ceb"), looks := true }, kinds := [], alts := [], laidByText := true, laidKinds := [.data, .data, .data, .data, .sentinel, .sentinel, .pinned], laidTests := true, laidLooks := .later }
def GlobMatchCardSaid : Prop := Claim7.holds Tryd.pinned (.plain (OpenSpec.ofChange globMatchSpec)) globMatchCard

/-- THE TIED CARD OF 'sealwrightlaw31.GlobReplace'. -/
def globReplaceCard : Claim7 := { stood := { row := globReplaceRow, standIns := [], harness := (true, "ddf1e42046a5e11f8d581097d719dc14e0199294e29a568797ffc4fc62366ceb"), looks := true }, kinds := [], alts := [], laidByText := true, laidKinds := [.data, .data, .data, .data, .sentinel, .sentinel, .pinned], laidTests := true, laidLooks := .later }
def GlobReplaceCardSaid : Prop := Claim7.holds Tryd.pinned (.plain (OpenSpec.ofChange globReplaceSpec)) globReplaceCard

/-- THE TIED CARD OF 'sealwrightlaw31.GlobJoin'. -/
def globJoinCard : Claim7 := { stood := { row := globJoinRow, standIns := [], harness := (true, "ddf1e42046a5e11f8d581097d719dc14e0199294e29a568797ffc4fc62366ceb"), looks := true }, kinds := [], alts := [], laidByText := true, laidKinds := [.data, .data, .data, .data, .sentinel, .sentinel, .pinned], laidTests := true, laidLooks := .later }
def GlobJoinCardSaid : Prop := Claim7.holds Tryd.pinned (.plain (OpenSpec.ofChange globJoinSpec)) globJoinCard

/-- THE TIED CARD OF 'sealwrightlaw31.GlobWider'. -/
def globWiderCard : Claim7 := { stood := { row := globWiderRow, standIns := [], harness := (true, "ddf1e42046a5e11f8d581097d719dc14e0199294e29a568797ffc4fc62366ceb"), looks := true }, kinds := [], alts := [], laidByText := true, laidKinds := [.data, .data, .data, .data, .sentinel, .sentinel, .pinned], laidTests := true, laidLooks := .later }
def GlobWiderCardSaid : Prop := Claim7.holds Tryd.pinned (.plain (OpenSpec.ofChange globWiderSpec)) globWiderCard

/-- THE TIED CARD OF 'sealwrightlaw31.RuleAllows'. -/
def ruleAllowsCard : Claim7 := { stood := { row := ruleAllowsRow, standIns := [], harness := (true, "ddf1e42046a5e11f8d581097d719dc14e0199294e29a568797ffc4fc62366ceb"), looks := true }, kinds := [], alts := [], laidByText := true, laidKinds := [.data, .data, .data, .data, .sentinel, .sentinel, .pinned], laidTests := true, laidLooks := .later }
def RuleAllowsCardSaid : Prop := Claim7.holds Tryd.pinned (.plain (OpenSpec.ofChange ruleAllowsSpec)) ruleAllowsCard

/-- THE TIED CARD OF 'sealwrightlaw31.RuleNumber'. -/
def ruleNumberCard : Claim7 := { stood := { row := ruleNumberRow, standIns := [], harness := (true, "ddf1e42046a5e11f8d581097d719dc14e0199294e29a568797ffc4fc62366ceb"), looks := true }, kinds := [], alts := [], laidByText := true, laidKinds := [.data, .data, .data, .data, .sentinel, .sentinel, .pinned], laidTests := true, laidLooks := .later }
def RuleNumberCardSaid : Prop := Claim7.holds Tryd.pinned (.plain (OpenSpec.ofChange ruleNumberSpec)) ruleNumberCard

/-- THE SECOND FORM's CARD OF 'sealwrightlaw31.RuleCheck'. -/
def ruleCheckUptoCard : Claim7 := { stood := { row := ruleCheckUptoRow, standIns := [], harness := (true, "ddf1e42046a5e11f8d581097d719dc14e0199294e29a568797ffc4fc62366ceb"), looks := true }, kinds := [], alts := [], laidByText := true, laidKinds := [.data, .data, .data, .data, .sentinel, .sentinel, .pinned], laidTests := true, laidLooks := .later }
def RuleCheckUptoCardSaid : Prop := Claim7.holds Tryd.pinned (.plain (OpenSpec.upto ruleCheckSpec)) ruleCheckUptoCard

/-- THE SECOND FORM's CARD OF 'sealwrightlaw31.GlobMatch'. -/
def globMatchUptoCard : Claim7 := { stood := { row := globMatchUptoRow, standIns := [], harness := (true, "ddf1e42046a5e11f8d581097d719dc14e0199294e29a568797ffc4fc62366ceb"), looks := true }, kinds := [], alts := [], laidByText := true, laidKinds := [.data, .data, .data, .data, .sentinel, .sentinel, .pinned], laidTests := true, laidLooks := .later }
def GlobMatchUptoCardSaid : Prop := Claim7.holds Tryd.pinned (.plain (OpenSpec.upto globMatchSpec)) globMatchUptoCard

/-- THE SECOND FORM's CARD OF 'sealwrightlaw31.GlobReplace'. -/
def globReplaceUptoCard : Claim7 := { stood := { row := globReplaceUptoRow, standIns := [], harness := (true, "ddf1e42046a5e11f8d581097d719dc14e0199294e29a568797ffc4fc62366ceb"), looks := true }, kinds := [], alts := [], laidByText := true, laidKinds := [.data, .data, .data, .data, .sentinel, .sentinel, .pinned], laidTests := true, laidLooks := .later }
def GlobReplaceUptoCardSaid : Prop := Claim7.holds Tryd.pinned (.plain (OpenSpec.upto globReplaceSpec)) globReplaceUptoCard

/-- THE SECOND FORM's CARD OF 'sealwrightlaw31.GlobJoin'. -/
def globJoinUptoCard : Claim7 := { stood := { row := globJoinUptoRow, standIns := [], harness := (true, "ddf1e42046a5e11f8d581097d719dc14e0199294e29a568797ffc4fc62366ceb"), looks := true }, kinds := [], alts := [], laidByText := true, laidKinds := [.data, .data, .data, .data, .sentinel, .sentinel, .pinned], laidTests := true, laidLooks := .later }
def GlobJoinUptoCardSaid : Prop := Claim7.holds Tryd.pinned (.plain (OpenSpec.upto globJoinSpec)) globJoinUptoCard

/-- THE SECOND FORM's CARD OF 'sealwrightlaw31.GlobWider'. -/
def globWiderUptoCard : Claim7 := { stood := { row := globWiderUptoRow, standIns := [], harness := (true, "ddf1e42046a5e11f8d581097d719dc14e0199294e29a568797ffc4fc62366ceb"), looks := true }, kinds := [], alts := [], laidByText := true, laidKinds := [.data, .data, .data, .data, .sentinel, .sentinel, .pinned], laidTests := true, laidLooks := .later }
def GlobWiderUptoCardSaid : Prop := Claim7.holds Tryd.pinned (.plain (OpenSpec.upto globWiderSpec)) globWiderUptoCard

/-- THE SECOND FORM's CARD OF 'sealwrightlaw31.RuleAllows'. -/
def ruleAllowsUptoCard : Claim7 := { stood := { row := ruleAllowsUptoRow, standIns := [], harness := (true, "ddf1e42046a5e11f8d581097d719dc14e0199294e29a568797ffc4fc62366ceb"), looks := true }, kinds := [], alts := [], laidByText := true, laidKinds := [.data, .data, .data, .data, .sentinel, .sentinel, .pinned], laidTests := true, laidLooks := .later }
def RuleAllowsUptoCardSaid : Prop := Claim7.holds Tryd.pinned (.plain (OpenSpec.upto ruleAllowsSpec)) ruleAllowsUptoCard

/-- THE SECOND FORM's CARD OF 'sealwrightlaw31.RuleNumber'. -/
def ruleNumberUptoCard : Claim7 := { stood := { row := ruleNumberUptoRow, standIns := [], harness := (true, "ddf1e42046a5e11f8d581097d719dc14e0199294e29a568797ffc4fc62366ceb"), looks := true }, kinds := [], alts := [], laidByText := true, laidKinds := [.data, .data, .data, .data, .sentinel, .sentinel, .pinned], laidTests := true, laidLooks := .later }
def RuleNumberUptoCardSaid : Prop := Claim7.holds Tryd.pinned (.plain (OpenSpec.upto ruleNumberSpec)) ruleNumberUptoCard
end Rows
end Go.Proofs.YtmekdaifojaoiaaDoor
