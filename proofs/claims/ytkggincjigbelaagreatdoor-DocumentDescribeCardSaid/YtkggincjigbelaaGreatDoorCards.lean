/-
  DERIVED. GIVEN WITH THE SEED: THE CARDS: each row of YtkggincjigbelaaGreatDoorRows.lean that lists a variable, with what it lists TIED to the program's text (the seventh form; the later family's looks); each row that meets fmt, with fmt's text TOLD by the authors' own Lean function (tested against real Go, not proved from fmt's source: count such statements apart). THE CARD IS WHAT COUNTS. Prove the row's statement (the work); the ties are given (YtkggincjigbelaaGreatDoorTie.lean); close each card by the builder's one call (the guide's Derived/Test/ToyasCard.lean, 'card_holds'). Laid BY PROGRAM, IN A SANDBOX (cutbox-door.mjs). By AI agents, Wed Nov 11 2026. No macro, syntax, notation, axiom, sorry.
-/
import Derived.Test.YtkggincjigbelaaGreatDoorRows
import GoSem.ClaimSeven
namespace Go.Proofs.YtkggincjigbelaaGreatDoor
namespace Rows

/-- THE TIED CARD OF 'sealwrightlaw33.DocumentWithdraw'. -/
def documentWithdrawCard : Claim7 := { stood := { row := documentWithdrawRow, standIns := [], harness := (true, "e32454b59c1e45583bec823aed90d442696e736b885360966aa787ede213aee7"), looks := false }, kinds := [], alts := [], laidByText := true, laidKinds := [.data], laidTests := true, laidLooks := .later }
def DocumentWithdrawCardSaid : Prop := Claim7.holds Tryz.pinned (.plain (OpenSpec.ofChange documentWithdrawSpec)) documentWithdrawCard

/-- THE TIED CARD OF 'sealwrightlaw33.DocumentTrust'. -/
def documentTrustCard : Claim7 := { stood := { row := documentTrustRow, standIns := [], harness := (true, "e32454b59c1e45583bec823aed90d442696e736b885360966aa787ede213aee7"), looks := false }, kinds := [], alts := [], laidByText := true, laidKinds := [.data], laidTests := true, laidLooks := .later }
def DocumentTrustCardSaid : Prop := Claim7.holds Tryz.pinned (.plain (OpenSpec.ofChange documentTrustSpec)) documentTrustCard

/-- THE TIED CARD OF 'sealwrightlaw33.DocumentSign'. -/
def documentSignCard : Claim7 := { stood := { row := documentSignRow, standIns := [], harness := (true, "e32454b59c1e45583bec823aed90d442696e736b885360966aa787ede213aee7"), looks := false }, kinds := [], alts := [], laidByText := true, laidKinds := [.data], laidTests := true, laidLooks := .later }
def DocumentSignCardSaid : Prop := Claim7.holds Tryz.pinned (.plain (OpenSpec.ofChange documentSignSpec)) documentSignCard

/-- THE TIED CARD OF 'sealwrightlaw33.DocumentSigners'. -/
def documentSignersCard : Claim7 := { stood := { row := documentSignersRow, standIns := [], harness := (true, "e32454b59c1e45583bec823aed90d442696e736b885360966aa787ede213aee7"), looks := false }, kinds := [], alts := [], laidByText := true, laidKinds := [.data], laidTests := true, laidLooks := .later }
def DocumentSignersCardSaid : Prop := Claim7.holds Tryz.pinned (.plain (OpenSpec.ofChange documentSignersSpec)) documentSignersCard

/-- THE TIED CARD OF 'sealwrightlaw33.DocumentVerify'. -/
def documentVerifyCard : Claim7 := { stood := { row := documentVerifyRow, standIns := [], harness := (true, "e32454b59c1e45583bec823aed90d442696e736b885360966aa787ede213aee7"), looks := false }, kinds := [], alts := [], laidByText := true, laidKinds := [.data], laidTests := true, laidLooks := .later }
def DocumentVerifyCardSaid : Prop := Claim7.holds Tryz.pinned (.plain (OpenSpec.ofChange documentVerifySpec)) documentVerifyCard

/-- THE TIED CARD OF 'sealwrightlaw33.DocumentThreshold'. -/
def documentThresholdCard : Claim7 := { stood := { row := documentThresholdRow, standIns := [], harness := (true, "e32454b59c1e45583bec823aed90d442696e736b885360966aa787ede213aee7"), looks := false }, kinds := [], alts := [], laidByText := true, laidKinds := [.data], laidTests := true, laidLooks := .later }
def DocumentThresholdCardSaid : Prop := Claim7.holds Tryz.pinned (.plain (OpenSpec.ofChange documentThresholdSpec)) documentThresholdCard

/-- THE TIED CARD OF 'sealwrightlaw33.DocumentMarks'. -/
def documentMarksCard : Claim7 := { stood := { row := documentMarksRow, standIns := [], harness := (true, "e32454b59c1e45583bec823aed90d442696e736b885360966aa787ede213aee7"), looks := false }, kinds := [], alts := [], laidByText := true, laidKinds := [.data], laidTests := true, laidLooks := .later }
def DocumentMarksCardSaid : Prop := Claim7.holds Tryz.pinned (.plain (OpenSpec.ofChange documentMarksSpec)) documentMarksCard

/-- THE TIED CARD OF 'sealwrightlaw33.DocumentDescribe'. -/
def documentDescribeCard : Claim7 := { stood := { row := documentDescribeRow, standIns := [], harness := (true, "e32454b59c1e45583bec823aed90d442696e736b885360966aa787ede213aee7"), looks := false }, kinds := [], alts := [], laidByText := true, laidKinds := [.data], laidTests := true, laidLooks := .later }
def DocumentDescribeCardSaid : Prop := Claim7.holds Tryz.pinned (.plain (OpenSpec.ofChange documentDescribeSpec)) documentDescribeCard

/-- THE SECOND FORM's CARD OF 'sealwrightlaw33.DocumentWithdraw'. -/
def documentWithdrawUptoCard : Claim7 := { stood := { row := documentWithdrawUptoRow, standIns := [], harness := (true, "e32454b59c1e45583bec823aed90d442696e736b885360966aa787ede213aee7"), looks := false }, kinds := [], alts := [], laidByText := true, laidKinds := [.data], laidTests := true, laidLooks := .later }
def DocumentWithdrawUptoCardSaid : Prop := Claim7.holds Tryz.pinned (.plain (OpenSpec.upto documentWithdrawSpec)) documentWithdrawUptoCard

/-- THE SECOND FORM's CARD OF 'sealwrightlaw33.DocumentTrust'. -/
def documentTrustUptoCard : Claim7 := { stood := { row := documentTrustUptoRow, standIns := [], harness := (true, "e32454b59c1e45583bec823aed90d442696e736b885360966aa787ede213aee7"), looks := false }, kinds := [], alts := [], laidByText := true, laidKinds := [.data], laidTests := true, laidLooks := .later }
def DocumentTrustUptoCardSaid : Prop := Claim7.holds Tryz.pinned (.plain (OpenSpec.upto documentTrustSpec)) documentTrustUptoCard

/-- THE SECOND FORM's CARD OF 'sealwrightlaw33.DocumentSign'. -/
def documentSignUptoCard : Claim7 := { stood := { row := documentSignUptoRow, standIns := [], harness := (true, "e32454b59c1e45583bec823aed90d442696e736b885360966aa787ede213aee7"), looks := false }, kinds := [], alts := [], laidByText := true, laidKinds := [.data], laidTests := true, laidLooks := .later }
def DocumentSignUptoCardSaid : Prop := Claim7.holds Tryz.pinned (.plain (OpenSpec.upto documentSignSpec)) documentSignUptoCard

/-- THE SECOND FORM's CARD OF 'sealwrightlaw33.DocumentSigners'. -/
def documentSignersUptoCard : Claim7 := { stood := { row := documentSignersUptoRow, standIns := [], harness := (true, "e32454b59c1e45583bec823aed90d442696e736b885360966aa787ede213aee7"), looks := false }, kinds := [], alts := [], laidByText := true, laidKinds := [.data], laidTests := true, laidLooks := .later }
def DocumentSignersUptoCardSaid : Prop := Claim7.holds Tryz.pinned (.plain (OpenSpec.upto documentSignersSpec)) documentSignersUptoCard

/-- THE SECOND FORM's CARD OF 'sealwrightlaw33.DocumentVerify'. -/
def documentVerifyUptoCard : Claim7 := { stood := { row := documentVerifyUptoRow, standIns := [], harness := (true, "e32454b59c1e45583bec823aed90d442696e736b885360966aa787ede213aee7"), looks := false }, kinds := [], alts := [], laidByText := true, laidKinds := [.data], laidTests := true, laidLooks := .later }
def DocumentVerifyUptoCardSaid : Prop := Claim7.holds Tryz.pinned (.plain (OpenSpec.upto documentVerifySpec)) documentVerifyUptoCard

/-- THE SECOND FORM's CARD OF 'sealwrightlaw33.DocumentThreshold'. -/
def documentThresholdUptoCard : Claim7 := { stood := { row := documentThresholdUptoRow, standIns := [], harness := (true, "e32454b59c1e45583bec823aed90d442696e736b885360966aa787ede213aee7"), looks := false }, kinds := [], alts := [], laidByText := true, laidKinds := [.data], laidTests := true, laidLooks := .later }
def DocumentThresholdUptoCardSaid : Prop := Claim7.holds Tryz.pinned (.plain (OpenSpec.upto documentThresholdSpec)) documentThresholdUptoCard

/-- THE SECOND FORM's CARD OF 'sealwrightlaw33.DocumentMarks'. -/
def documentMarksUptoCard : Claim7 := { stood := { row := documentMarksUptoRow, standIns := [], harness := (true, "e32454b59c1e45583bec823aed90d442696e736b885360966aa787ede213aee7"), looks := false }, kinds := [], alts := [], laidByText := true, laidKinds := [.data], laidTests := true, laidLooks := .later }
def DocumentMarksUptoCardSaid : Prop := Claim7.holds Tryz.pinned (.plain (OpenSpec.upto documentMarksSpec)) documentMarksUptoCard

/-- THE SECOND FORM's CARD OF 'sealwrightlaw33.DocumentDescribe'. -/
def documentDescribeUptoCard : Claim7 := { stood := { row := documentDescribeUptoRow, standIns := [], harness := (true, "e32454b59c1e45583bec823aed90d442696e736b885360966aa787ede213aee7"), looks := false }, kinds := [], alts := [], laidByText := true, laidKinds := [.data], laidTests := true, laidLooks := .later }
def DocumentDescribeUptoCardSaid : Prop := Claim7.holds Tryz.pinned (.plain (OpenSpec.upto documentDescribeSpec)) documentDescribeUptoCard
end Rows
end Go.Proofs.YtkggincjigbelaaGreatDoor
