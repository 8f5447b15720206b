/-
  DERIVED. GIVEN WITH THE SEED: THE CARDS: each row of YtkcjdeofknkndaaGreatDoorRows.lean that lists a variable, with what it lists TIED to the program's text (the seventh form; the later family's looks); each row that meets fmt, with fmt's text TOLD by the authors' own Lean function (tested against real Go, not proved from fmt's source: count such statements apart). THE CARD IS WHAT COUNTS. Prove the row's statement (the work); the ties are given (YtkcjdeofknkndaaGreatDoorTie.lean); close each card by the builder's one call (the guide's Derived/Test/ToyasCard.lean, 'card_holds'). Laid BY PROGRAM, IN A SANDBOX (cutbox-door.mjs). By AI agents, Wed Nov 11 2026. No macro, syntax, notation, axiom, sorry.
-/
import Derived.Test.YtkcjdeofknkndaaGreatDoorRows
import GoSem.ClaimSeven
namespace Go.Proofs.YtkcjdeofknkndaaGreatDoor
namespace Rows

/-- THE TIED CARD OF 'sealwrightlaw32.ManifestCheck'. -/
def manifestCheckCard : Claim7 := { stood := { row := manifestCheckRow, standIns := [], harness := (true, "9c80983056878f63d794d1f63b9ff33a099baf7af943a0f779ebcd9c30ee84ff"), looks := true }, kinds := [], alts := [], laidByText := true, laidKinds := [.data, .data, .data, .data, .data, .sentinel, .sentinel, .data, .pinned], laidTests := true, laidLooks := .later }
def ManifestCheckCardSaid : Prop := Claim7.holds Tryz.pinned (.plain (OpenSpec.ofChange manifestCheckSpec)) manifestCheckCard

/-- THE TIED CARD OF 'sealwrightlaw32.ManifestCodec'. -/
def manifestCodecCard : Claim7 := { stood := { row := manifestCodecRow, standIns := [], harness := (true, "9c80983056878f63d794d1f63b9ff33a099baf7af943a0f779ebcd9c30ee84ff"), looks := true }, kinds := [], alts := [], laidByText := true, laidKinds := [.data, .data, .data, .data, .data, .sentinel, .sentinel, .data, .pinned], laidTests := true, laidLooks := .later }
def ManifestCodecCardSaid : Prop := Claim7.holds Tryz.pinned (.plain (OpenSpec.ofChange manifestCodecSpec)) manifestCodecCard

/-- THE TIED CARD OF 'sealwrightlaw32.ManifestDecode'. -/
def manifestDecodeCard : Claim7 := { stood := { row := manifestDecodeRow, standIns := [], harness := (true, "9c80983056878f63d794d1f63b9ff33a099baf7af943a0f779ebcd9c30ee84ff"), looks := true }, kinds := [], alts := [], laidByText := true, laidKinds := [.data, .data, .data, .data, .data, .sentinel, .sentinel, .data, .pinned], laidTests := true, laidLooks := .later }
def ManifestDecodeCardSaid : Prop := Claim7.holds Tryz.pinned (.plain (OpenSpec.ofChange manifestDecodeSpec)) manifestDecodeCard

/-- THE TIED CARD OF 'sealwrightlaw32.ManifestDistinct'. -/
def manifestDistinctCard : Claim7 := { stood := { row := manifestDistinctRow, standIns := [], harness := (true, "9c80983056878f63d794d1f63b9ff33a099baf7af943a0f779ebcd9c30ee84ff"), looks := true }, kinds := [], alts := [], laidByText := true, laidKinds := [.data, .data, .data, .data, .data, .sentinel, .sentinel, .data, .pinned], laidTests := true, laidLooks := .later }
def ManifestDistinctCardSaid : Prop := Claim7.holds Tryz.pinned (.plain (OpenSpec.ofChange manifestDistinctSpec)) manifestDistinctCard

/-- THE TIED CARD OF 'sealwrightlaw32.ManifestItem'. -/
def manifestItemCard : Claim7 := { stood := { row := manifestItemRow, standIns := [], harness := (true, "9c80983056878f63d794d1f63b9ff33a099baf7af943a0f779ebcd9c30ee84ff"), looks := true }, kinds := [], alts := [], laidByText := true, laidKinds := [.data, .data, .data, .data, .data, .sentinel, .sentinel, .data, .pinned], laidTests := true, laidLooks := .later }
def ManifestItemCardSaid : Prop := Claim7.holds Tryz.pinned (.plain (OpenSpec.ofChange manifestItemSpec)) manifestItemCard

/-- THE TIED CARD OF 'sealwrightlaw32.ManifestAllows'. -/
def manifestAllowsCard : Claim7 := { stood := { row := manifestAllowsRow, standIns := [], harness := (true, "9c80983056878f63d794d1f63b9ff33a099baf7af943a0f779ebcd9c30ee84ff"), looks := true }, kinds := [], alts := [], laidByText := true, laidKinds := [.data, .data, .data, .data, .data, .sentinel, .sentinel, .data, .pinned], laidTests := true, laidLooks := .later }
def ManifestAllowsCardSaid : Prop := Claim7.holds Tryz.pinned (.plain (OpenSpec.ofChange manifestAllowsSpec)) manifestAllowsCard

/-- THE TIED CARD OF 'sealwrightlaw32.ManifestDescribe'. -/
def manifestDescribeCard : Claim7 := { stood := { row := manifestDescribeRow, standIns := [], harness := (true, "9c80983056878f63d794d1f63b9ff33a099baf7af943a0f779ebcd9c30ee84ff"), looks := true }, kinds := [], alts := [], laidByText := true, laidKinds := [.data, .data, .data, .data, .data, .sentinel, .sentinel, .data, .pinned], laidTests := true, laidLooks := .later }
def ManifestDescribeCardSaid : Prop := Claim7.holds Tryz.pinned (.plain (OpenSpec.ofChange manifestDescribeSpec)) manifestDescribeCard

/-- THE SECOND FORM's CARD OF 'sealwrightlaw32.ManifestCheck'. -/
def manifestCheckUptoCard : Claim7 := { stood := { row := manifestCheckUptoRow, standIns := [], harness := (true, "9c80983056878f63d794d1f63b9ff33a099baf7af943a0f779ebcd9c30ee84ff"), looks := true }, kinds := [], alts := [], laidByText := true, laidKinds := [.data, .data, .data, .data, .data, .sentinel, .sentinel, .data, .pinned], laidTests := true, laidLooks := .later }
def ManifestCheckUptoCardSaid : Prop := Claim7.holds Tryz.pinned (.plain (OpenSpec.upto manifestCheckSpec)) manifestCheckUptoCard

/-- THE SECOND FORM's CARD OF 'sealwrightlaw32.ManifestCodec'. -/
def manifestCodecUptoCard : Claim7 := { stood := { row := manifestCodecUptoRow, standIns := [], harness := (true, "9c80983056878f63d794d1f63b9ff33a099baf7af943a0f779ebcd9c30ee84ff"), looks := true }, kinds := [], alts := [], laidByText := true, laidKinds := [.data, .data, .data, .data, .data, .sentinel, .sentinel, .data, .pinned], laidTests := true, laidLooks := .later }
def ManifestCodecUptoCardSaid : Prop := Claim7.holds Tryz.pinned (.plain (OpenSpec.upto manifestCodecSpec)) manifestCodecUptoCard

/-- THE SECOND FORM's CARD OF 'sealwrightlaw32.ManifestDecode'. -/
def manifestDecodeUptoCard : Claim7 := { stood := { row := manifestDecodeUptoRow, standIns := [], harness := (true, "9c80983056878f63d794d1f63b9ff33a099baf7af943a0f779ebcd9c30ee84ff"), looks := true }, kinds := [], alts := [], laidByText := true, laidKinds := [.data, .data, .data, .data, .data, .sentinel, .sentinel, .data, .pinned], laidTests := true, laidLooks := .later }
def ManifestDecodeUptoCardSaid : Prop := Claim7.holds Tryz.pinned (.plain (OpenSpec.upto manifestDecodeSpec)) manifestDecodeUptoCard

/-- THE SECOND FORM's CARD OF 'sealwrightlaw32.ManifestDistinct'. -/
def manifestDistinctUptoCard : Claim7 := { stood := { row := manifestDistinctUptoRow, standIns := [], harness := (true, "9c80983056878f63d794d1f63b9ff33a099baf7af943a0f779ebcd9c30ee84ff"), looks := true }, kinds := [], alts := [], laidByText := true, laidKinds := [.data, .data, .data, .data, .data, .sentinel, .sentinel, .data, .pinned], laidTests := true, laidLooks := .later }
def ManifestDistinctUptoCardSaid : Prop := Claim7.holds Tryz.pinned (.plain (OpenSpec.upto manifestDistinctSpec)) manifestDistinctUptoCard

/-- THE SECOND FORM's CARD OF 'sealwrightlaw32.ManifestItem'. -/
def manifestItemUptoCard : Claim7 := { stood := { row := manifestItemUptoRow, standIns := [], harness := (true, "9c80983056878f63d794d1f63b9ff33a099baf7af943a0f779ebcd9c30ee84ff"), looks := true }, kinds := [], alts := [], laidByText := true, laidKinds := [.data, .data, .data, .data, .data, .sentinel, .sentinel, .data, .pinned], laidTests := true, laidLooks := .later }
def ManifestItemUptoCardSaid : Prop := Claim7.holds Tryz.pinned (.plain (OpenSpec.upto manifestItemSpec)) manifestItemUptoCard

/-- THE SECOND FORM's CARD OF 'sealwrightlaw32.ManifestAllows'. -/
def manifestAllowsUptoCard : Claim7 := { stood := { row := manifestAllowsUptoRow, standIns := [], harness := (true, "9c80983056878f63d794d1f63b9ff33a099baf7af943a0f779ebcd9c30ee84ff"), looks := true }, kinds := [], alts := [], laidByText := true, laidKinds := [.data, .data, .data, .data, .data, .sentinel, .sentinel, .data, .pinned], laidTests := true, laidLooks := .later }
def ManifestAllowsUptoCardSaid : Prop := Claim7.holds Tryz.pinned (.plain (OpenSpec.upto manifestAllowsSpec)) manifestAllowsUptoCard

/-- THE SECOND FORM's CARD OF 'sealwrightlaw32.ManifestDescribe'. -/
def manifestDescribeUptoCard : Claim7 := { stood := { row := manifestDescribeUptoRow, standIns := [], harness := (true, "9c80983056878f63d794d1f63b9ff33a099baf7af943a0f779ebcd9c30ee84ff"), looks := true }, kinds := [], alts := [], laidByText := true, laidKinds := [.data, .data, .data, .data, .data, .sentinel, .sentinel, .data, .pinned], laidTests := true, laidLooks := .later }
def ManifestDescribeUptoCardSaid : Prop := Claim7.holds Tryz.pinned (.plain (OpenSpec.upto manifestDescribeSpec)) manifestDescribeUptoCard
end Rows
end Go.Proofs.YtkcjdeofknkndaaGreatDoor
