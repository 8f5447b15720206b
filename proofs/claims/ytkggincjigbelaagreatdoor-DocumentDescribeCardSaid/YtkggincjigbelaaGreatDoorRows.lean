/-
  NARROWER THAN 'FOR EVERY INPUT', by the rows' own cells (each row's printed sentence says how): DocumentWithdraw: laid · DocumentTrust: laid · DocumentSign: laid · DocumentSigners: laid · DocumentVerify: laid · DocumentThreshold: laid · DocumentMarks: laid · DocumentDescribe: laid.
  DERIVED. THE GIVEN ROWS OF THIS SEAT. 8 by the template 'for every input the law returns true; each argument reads behind the call as it read before'; 0 by the template 'total and deterministic' (their statements: YtkggincjigbelaaGreatDoorTotals.lean).
  GIVEN WITH THE SEED: the statements are not yours to turn. If you find one false, say at which input.
  Laid BY PROGRAM, IN A SANDBOX (cutbox-rows.mjs): the forced cells as the released guide's own fill.sh prints them over the translation ccd10ad075bdd2bf… (all of the seat's roots in one cut). By AI agents, Wed Nov 11 2026. No macro, syntax, notation, axiom, sorry.
-/
import Derived.Test.YtkggincjigbelaaGreatDoorChecked
import GoSem.Claim
import GoSem.ClaimJoined
import GoSem.ClaimMapViews
import Derived.JoinedTies
import Derived.KernelRfl
namespace Go.Proofs.YtkggincjigbelaaGreatDoor
/- THE CELL 'sum', in the pinned program and in every row, IS THE sha256 OF THE DUMP (.gsa) THAT YtkggincjigbelaaGreatDoorProg.lean LOADS. Nothing in Lean hashes anything: it is a label: what it is worth is what the hold of that sum in a sandbox is worth. -/
noncomputable def Tryz.pinned : Pinned := { name := "ytkggincjigbelaagreatdoor", sum := "ccd10ad075bdd2bf5e10cedbe82c43d2db2c6d46a76c4cafd876331d6c0ba072", checked := Tryz.checked }
namespace Rows
def none {H : Type} : Left H := { results := [], args := [] }

/- WHAT THE LISTED PACKAGE-LEVEL VARIABLES READ AS WHEN THE CALL BEGINS. Each datum BY PROGRAM (the guide's laid-datum.mjs) off the statement by which the dump's own 'gosem.cut.vars' lays the variable. In a bare row this is a premise. The card (YtkggincjigbelaaGreatDoorCards.lean) ties it to the program's text. -/
def laid_sealwright_digest_round256 {H : Type} : DataW H := .agg [.lit (.int .u32 1116352408), .lit (.int .u32 1899447441), .lit (.int .u32 3049323471), .lit (.int .u32 3921009573), .lit (.int .u32 961987163), .lit (.int .u32 1508970993), .lit (.int .u32 2453635748), .lit (.int .u32 2870763221), .lit (.int .u32 3624381080), .lit (.int .u32 310598401), .lit (.int .u32 607225278), .lit (.int .u32 1426881987), .lit (.int .u32 1925078388), .lit (.int .u32 2162078206), .lit (.int .u32 2614888103), .lit (.int .u32 3248222580), .lit (.int .u32 3835390401), .lit (.int .u32 4022224774), .lit (.int .u32 264347078), .lit (.int .u32 604807628), .lit (.int .u32 770255983), .lit (.int .u32 1249150122), .lit (.int .u32 1555081692), .lit (.int .u32 1996064986), .lit (.int .u32 2554220882), .lit (.int .u32 2821834349), .lit (.int .u32 2952996808), .lit (.int .u32 3210313671), .lit (.int .u32 3336571891), .lit (.int .u32 3584528711), .lit (.int .u32 113926993), .lit (.int .u32 338241895), .lit (.int .u32 666307205), .lit (.int .u32 773529912), .lit (.int .u32 1294757372), .lit (.int .u32 1396182291), .lit (.int .u32 1695183700), .lit (.int .u32 1986661051), .lit (.int .u32 2177026350), .lit (.int .u32 2456956037), .lit (.int .u32 2730485921), .lit (.int .u32 2820302411), .lit (.int .u32 3259730800), .lit (.int .u32 3345764771), .lit (.int .u32 3516065817), .lit (.int .u32 3600352804), .lit (.int .u32 4094571909), .lit (.int .u32 275423344), .lit (.int .u32 430227734), .lit (.int .u32 506948616), .lit (.int .u32 659060556), .lit (.int .u32 883997877), .lit (.int .u32 958139571), .lit (.int .u32 1322822218), .lit (.int .u32 1537002063), .lit (.int .u32 1747873779), .lit (.int .u32 1955562222), .lit (.int .u32 2024104815), .lit (.int .u32 2227730452), .lit (.int .u32 2361852424), .lit (.int .u32 2428436474), .lit (.int .u32 2756734187), .lit (.int .u32 3204031479), .lit (.int .u32 3329325298)]

/-- 'sealwrightlaw33.DocumentWithdraw': WHATEVER THE INPUT: true; the input reads as it did. -/
def documentWithdrawSpec : ChangeSpec := { name := "documentWithdraw", fn := fun _ => fun
  | [d1, d2, d3, d4, d5, d6] => { results := [.lit (.bool true)], args := [d1, d2, d3, d4, d5, d6] }
  | _ => none }
def documentWithdrawRow : OpenClaim := { program := "ytkggincjigbelaagreatdoor", sum := "ccd10ad075bdd2bf5e10cedbe82c43d2db2c6d46a76c4cafd876331d6c0ba072", func := "sealwright/sealwrightlaw33.DocumentWithdraw", spec := "documentWithdraw", inPlace := ["internal/bytealg.IndexByte", "internal/bytealg.abigen_runtime_cmpstring", "internal/bytealg.Compare"], unfollowed := true, recurses := true, named := ["sealwright/digest.round256"], apart := false, laid := [("sealwright/digest.round256", laid_sealwright_digest_round256)] }
def DocumentWithdrawSaid : Prop := documentWithdrawRow.holds Tryz.pinned (OpenSpec.ofChange documentWithdrawSpec)

/-- ITS FALSE NEIGHBOUR: 'it returns false'. Refute it at one input. -/
def documentWithdrawWrong : ChangeSpec := { name := "documentWithdraw", fn := fun _ => fun
  | [d1, d2, d3, d4, d5, d6] => { results := [.lit (.bool false)], args := [d1, d2, d3, d4, d5, d6] }
  | _ => none }
def DocumentWithdrawWrongFalsely : Prop := documentWithdrawRow.holds Tryz.pinned (OpenSpec.ofChange documentWithdrawWrong)

/-- 'sealwrightlaw33.DocumentTrust': WHATEVER THE INPUT: true; the input reads as it did. -/
def documentTrustSpec : ChangeSpec := { name := "documentTrust", fn := fun _ => fun
  | [d1, d2, d3, d4, d5, d6] => { results := [.lit (.bool true)], args := [d1, d2, d3, d4, d5, d6] }
  | _ => none }
def documentTrustRow : OpenClaim := { program := "ytkggincjigbelaagreatdoor", sum := "ccd10ad075bdd2bf5e10cedbe82c43d2db2c6d46a76c4cafd876331d6c0ba072", func := "sealwright/sealwrightlaw33.DocumentTrust", spec := "documentTrust", inPlace := ["internal/bytealg.IndexByte", "internal/bytealg.abigen_runtime_cmpstring", "internal/bytealg.Compare"], unfollowed := true, recurses := true, named := ["sealwright/digest.round256"], apart := false, laid := [("sealwright/digest.round256", laid_sealwright_digest_round256)] }
def DocumentTrustSaid : Prop := documentTrustRow.holds Tryz.pinned (OpenSpec.ofChange documentTrustSpec)

/-- ITS FALSE NEIGHBOUR: 'it returns false'. Refute it at one input. -/
def documentTrustWrong : ChangeSpec := { name := "documentTrust", fn := fun _ => fun
  | [d1, d2, d3, d4, d5, d6] => { results := [.lit (.bool false)], args := [d1, d2, d3, d4, d5, d6] }
  | _ => none }
def DocumentTrustWrongFalsely : Prop := documentTrustRow.holds Tryz.pinned (OpenSpec.ofChange documentTrustWrong)

/-- 'sealwrightlaw33.DocumentSign': WHATEVER THE INPUT: true; the input reads as it did. -/
def documentSignSpec : ChangeSpec := { name := "documentSign", fn := fun _ => fun
  | [d1, d2, d3, d4, d5, d6, d7] => { results := [.lit (.bool true)], args := [d1, d2, d3, d4, d5, d6, d7] }
  | _ => none }
def documentSignRow : OpenClaim := { program := "ytkggincjigbelaagreatdoor", sum := "ccd10ad075bdd2bf5e10cedbe82c43d2db2c6d46a76c4cafd876331d6c0ba072", func := "sealwright/sealwrightlaw33.DocumentSign", spec := "documentSign", inPlace := ["internal/bytealg.IndexByte", "internal/bytealg.abigen_runtime_cmpstring", "internal/bytealg.Compare"], unfollowed := true, recurses := true, named := ["sealwright/digest.round256"], apart := false, laid := [("sealwright/digest.round256", laid_sealwright_digest_round256)] }
def DocumentSignSaid : Prop := documentSignRow.holds Tryz.pinned (OpenSpec.ofChange documentSignSpec)

/-- ITS FALSE NEIGHBOUR: 'it returns false'. Refute it at one input. -/
def documentSignWrong : ChangeSpec := { name := "documentSign", fn := fun _ => fun
  | [d1, d2, d3, d4, d5, d6, d7] => { results := [.lit (.bool false)], args := [d1, d2, d3, d4, d5, d6, d7] }
  | _ => none }
def DocumentSignWrongFalsely : Prop := documentSignRow.holds Tryz.pinned (OpenSpec.ofChange documentSignWrong)

/-- 'sealwrightlaw33.DocumentSigners': WHATEVER THE INPUT: true; the input reads as it did. -/
def documentSignersSpec : ChangeSpec := { name := "documentSigners", fn := fun _ => fun
  | [d1, d2, d3, d4, d5, d6, d7, d8] => { results := [.lit (.bool true)], args := [d1, d2, d3, d4, d5, d6, d7, d8] }
  | _ => none }
def documentSignersRow : OpenClaim := { program := "ytkggincjigbelaagreatdoor", sum := "ccd10ad075bdd2bf5e10cedbe82c43d2db2c6d46a76c4cafd876331d6c0ba072", func := "sealwright/sealwrightlaw33.DocumentSigners", spec := "documentSigners", inPlace := ["internal/bytealg.IndexByte", "internal/bytealg.abigen_runtime_cmpstring", "internal/bytealg.Compare"], unfollowed := true, recurses := true, named := ["sealwright/digest.round256"], apart := false, laid := [("sealwright/digest.round256", laid_sealwright_digest_round256)] }
def DocumentSignersSaid : Prop := documentSignersRow.holds Tryz.pinned (OpenSpec.ofChange documentSignersSpec)

/-- ITS FALSE NEIGHBOUR: 'it returns false'. Refute it at one input. -/
def documentSignersWrong : ChangeSpec := { name := "documentSigners", fn := fun _ => fun
  | [d1, d2, d3, d4, d5, d6, d7, d8] => { results := [.lit (.bool false)], args := [d1, d2, d3, d4, d5, d6, d7, d8] }
  | _ => none }
def DocumentSignersWrongFalsely : Prop := documentSignersRow.holds Tryz.pinned (OpenSpec.ofChange documentSignersWrong)

/-- 'sealwrightlaw33.DocumentVerify': WHATEVER THE INPUT: true; the input reads as it did. -/
def documentVerifySpec : ChangeSpec := { name := "documentVerify", fn := fun _ => fun
  | [d1, d2, d3, d4, d5, d6] => { results := [.lit (.bool true)], args := [d1, d2, d3, d4, d5, d6] }
  | _ => none }
def documentVerifyRow : OpenClaim := { program := "ytkggincjigbelaagreatdoor", sum := "ccd10ad075bdd2bf5e10cedbe82c43d2db2c6d46a76c4cafd876331d6c0ba072", func := "sealwright/sealwrightlaw33.DocumentVerify", spec := "documentVerify", inPlace := ["internal/bytealg.IndexByte", "internal/bytealg.abigen_runtime_cmpstring", "internal/bytealg.Compare"], unfollowed := true, recurses := true, named := ["sealwright/digest.round256"], apart := false, laid := [("sealwright/digest.round256", laid_sealwright_digest_round256)] }
def DocumentVerifySaid : Prop := documentVerifyRow.holds Tryz.pinned (OpenSpec.ofChange documentVerifySpec)

/-- ITS FALSE NEIGHBOUR: 'it returns false'. Refute it at one input. -/
def documentVerifyWrong : ChangeSpec := { name := "documentVerify", fn := fun _ => fun
  | [d1, d2, d3, d4, d5, d6] => { results := [.lit (.bool false)], args := [d1, d2, d3, d4, d5, d6] }
  | _ => none }
def DocumentVerifyWrongFalsely : Prop := documentVerifyRow.holds Tryz.pinned (OpenSpec.ofChange documentVerifyWrong)

/-- 'sealwrightlaw33.DocumentThreshold': WHATEVER THE INPUT: true; the input reads as it did. -/
def documentThresholdSpec : ChangeSpec := { name := "documentThreshold", fn := fun _ => fun
  | [d1, d2, d3, d4, d5] => { results := [.lit (.bool true)], args := [d1, d2, d3, d4, d5] }
  | _ => none }
def documentThresholdRow : OpenClaim := { program := "ytkggincjigbelaagreatdoor", sum := "ccd10ad075bdd2bf5e10cedbe82c43d2db2c6d46a76c4cafd876331d6c0ba072", func := "sealwright/sealwrightlaw33.DocumentThreshold", spec := "documentThreshold", inPlace := ["internal/bytealg.IndexByte", "internal/bytealg.abigen_runtime_cmpstring", "internal/bytealg.Compare"], unfollowed := true, recurses := true, named := ["sealwright/digest.round256"], apart := false, laid := [("sealwright/digest.round256", laid_sealwright_digest_round256)] }
def DocumentThresholdSaid : Prop := documentThresholdRow.holds Tryz.pinned (OpenSpec.ofChange documentThresholdSpec)

/-- ITS FALSE NEIGHBOUR: 'it returns false'. Refute it at one input. -/
def documentThresholdWrong : ChangeSpec := { name := "documentThreshold", fn := fun _ => fun
  | [d1, d2, d3, d4, d5] => { results := [.lit (.bool false)], args := [d1, d2, d3, d4, d5] }
  | _ => none }
def DocumentThresholdWrongFalsely : Prop := documentThresholdRow.holds Tryz.pinned (OpenSpec.ofChange documentThresholdWrong)

/-- 'sealwrightlaw33.DocumentMarks': WHATEVER THE INPUT: true; the input reads as it did. -/
def documentMarksSpec : ChangeSpec := { name := "documentMarks", fn := fun _ => fun
  | [d1, d2, d3, d4, d5, d6] => { results := [.lit (.bool true)], args := [d1, d2, d3, d4, d5, d6] }
  | _ => none }
def documentMarksRow : OpenClaim := { program := "ytkggincjigbelaagreatdoor", sum := "ccd10ad075bdd2bf5e10cedbe82c43d2db2c6d46a76c4cafd876331d6c0ba072", func := "sealwright/sealwrightlaw33.DocumentMarks", spec := "documentMarks", inPlace := ["internal/bytealg.IndexByte", "internal/bytealg.abigen_runtime_cmpstring", "internal/bytealg.Compare"], unfollowed := true, recurses := true, named := ["sealwright/digest.round256"], apart := false, laid := [("sealwright/digest.round256", laid_sealwright_digest_round256)] }
def DocumentMarksSaid : Prop := documentMarksRow.holds Tryz.pinned (OpenSpec.ofChange documentMarksSpec)

/-- ITS FALSE NEIGHBOUR: 'it returns false'. Refute it at one input. -/
def documentMarksWrong : ChangeSpec := { name := "documentMarks", fn := fun _ => fun
  | [d1, d2, d3, d4, d5, d6] => { results := [.lit (.bool false)], args := [d1, d2, d3, d4, d5, d6] }
  | _ => none }
def DocumentMarksWrongFalsely : Prop := documentMarksRow.holds Tryz.pinned (OpenSpec.ofChange documentMarksWrong)

/-- 'sealwrightlaw33.DocumentDescribe': WHATEVER THE INPUT: true; the input reads as it did. -/
def documentDescribeSpec : ChangeSpec := { name := "documentDescribe", fn := fun _ => fun
  | [d1, d2] => { results := [.lit (.bool true)], args := [d1, d2] }
  | _ => none }
def documentDescribeRow : OpenClaim := { program := "ytkggincjigbelaagreatdoor", sum := "ccd10ad075bdd2bf5e10cedbe82c43d2db2c6d46a76c4cafd876331d6c0ba072", func := "sealwright/sealwrightlaw33.DocumentDescribe", spec := "documentDescribe", inPlace := ["internal/bytealg.IndexByte", "internal/bytealg.abigen_runtime_cmpstring", "internal/bytealg.Compare"], unfollowed := true, recurses := true, named := ["sealwright/digest.round256"], apart := false, laid := [("sealwright/digest.round256", laid_sealwright_digest_round256)] }
def DocumentDescribeSaid : Prop := documentDescribeRow.holds Tryz.pinned (OpenSpec.ofChange documentDescribeSpec)

/-- ITS FALSE NEIGHBOUR: 'it returns false'. Refute it at one input. -/
def documentDescribeWrong : ChangeSpec := { name := "documentDescribe", fn := fun _ => fun
  | [d1, d2] => { results := [.lit (.bool false)], args := [d1, d2] }
  | _ => none }
def DocumentDescribeWrongFalsely : Prop := documentDescribeRow.holds Tryz.pinned (OpenSpec.ofChange documentDescribeWrong)

/- THE SECOND FORM. 'bulk': how many values and letters a reading holds, each counted each time it is reached (what is shared counts as often as it is met; a slice's spare places count too). A statement '..UptoSaid' is the law's where the arguments, and the package variables that the reading takes, are together of bulk at most 1048576: NARROWER than '..Said'. Prove '..Said' where nothing that the law and all that it calls make is longer than what came in: it says more and counts as full. Else prove '..UptoSaid'. A law counts once. -/
mutual
def uptoBulk {H : Type} : DataW H → Nat
  | .lit (.string bytes) => bytes.length + 1
  | .lit _ => 1
  | .nil => 1
  | .ptr d => uptoBulk d + 1
  | .slice elems spare => uptoBulkAll elems + uptoBulkAll spare + 1
  | .agg parts => uptoBulkAll parts + 1
  | .iface _ d => uptoBulk d + 1
  | .map entries => uptoBulkEntries entries + 1
  | .held _ => 1
def uptoBulkAll {H : Type} : List (DataW H) → Nat
  | [] => 0
  | d :: r => uptoBulk d + uptoBulkAll r
def uptoBulkEntries {H : Type} : List (Lit × DataW H) → Nat
  | [] => 0
  | x :: r => uptoBulkEntry x + uptoBulkEntries r
def uptoBulkEntry {H : Type} : Lit × DataW H → Nat
  | (.string bytes, d) => bytes.length + uptoBulk d + 1
  | (_, d) => uptoBulk d + 1
 end
def uptoSmall : (H : Type) → List (DataW H) → Bool := fun _ ds => decide (uptoBulkAll ds ≤ 1048576)
def OpenSpec.upto (s : _root_.Go.ChangeSpec) : _root_.Go.OpenSpec := { _root_.Go.OpenSpec.ofChange s with cond := some uptoSmall }

/-- 'sealwrightlaw33.DocumentWithdraw', WHERE WHAT IT READS IS OF BULK AT MOST 1048576: true; the input reads as it did. -/
def documentWithdrawUptoRow : OpenClaim := { program := "ytkggincjigbelaagreatdoor", sum := "ccd10ad075bdd2bf5e10cedbe82c43d2db2c6d46a76c4cafd876331d6c0ba072", func := "sealwright/sealwrightlaw33.DocumentWithdraw", spec := "documentWithdraw", inPlace := ["internal/bytealg.IndexByte", "internal/bytealg.abigen_runtime_cmpstring", "internal/bytealg.Compare"], unfollowed := true, recurses := true, named := ["sealwright/digest.round256"], apart := false, laid := [("sealwright/digest.round256", laid_sealwright_digest_round256)], narrowed := true }
def DocumentWithdrawUptoSaid : Prop := documentWithdrawUptoRow.holds Tryz.pinned (OpenSpec.upto documentWithdrawSpec)

/-- 'sealwrightlaw33.DocumentTrust', WHERE WHAT IT READS IS OF BULK AT MOST 1048576: true; the input reads as it did. -/
def documentTrustUptoRow : OpenClaim := { program := "ytkggincjigbelaagreatdoor", sum := "ccd10ad075bdd2bf5e10cedbe82c43d2db2c6d46a76c4cafd876331d6c0ba072", func := "sealwright/sealwrightlaw33.DocumentTrust", spec := "documentTrust", inPlace := ["internal/bytealg.IndexByte", "internal/bytealg.abigen_runtime_cmpstring", "internal/bytealg.Compare"], unfollowed := true, recurses := true, named := ["sealwright/digest.round256"], apart := false, laid := [("sealwright/digest.round256", laid_sealwright_digest_round256)], narrowed := true }
def DocumentTrustUptoSaid : Prop := documentTrustUptoRow.holds Tryz.pinned (OpenSpec.upto documentTrustSpec)

/-- 'sealwrightlaw33.DocumentSign', WHERE WHAT IT READS IS OF BULK AT MOST 1048576: true; the input reads as it did. -/
def documentSignUptoRow : OpenClaim := { program := "ytkggincjigbelaagreatdoor", sum := "ccd10ad075bdd2bf5e10cedbe82c43d2db2c6d46a76c4cafd876331d6c0ba072", func := "sealwright/sealwrightlaw33.DocumentSign", spec := "documentSign", inPlace := ["internal/bytealg.IndexByte", "internal/bytealg.abigen_runtime_cmpstring", "internal/bytealg.Compare"], unfollowed := true, recurses := true, named := ["sealwright/digest.round256"], apart := false, laid := [("sealwright/digest.round256", laid_sealwright_digest_round256)], narrowed := true }
def DocumentSignUptoSaid : Prop := documentSignUptoRow.holds Tryz.pinned (OpenSpec.upto documentSignSpec)

/-- 'sealwrightlaw33.DocumentSigners', WHERE WHAT IT READS IS OF BULK AT MOST 1048576: true; the input reads as it did. -/
def documentSignersUptoRow : OpenClaim := { program := "ytkggincjigbelaagreatdoor", sum := "ccd10ad075bdd2bf5e10cedbe82c43d2db2c6d46a76c4cafd876331d6c0ba072", func := "sealwright/sealwrightlaw33.DocumentSigners", spec := "documentSigners", inPlace := ["internal/bytealg.IndexByte", "internal/bytealg.abigen_runtime_cmpstring", "internal/bytealg.Compare"], unfollowed := true, recurses := true, named := ["sealwright/digest.round256"], apart := false, laid := [("sealwright/digest.round256", laid_sealwright_digest_round256)], narrowed := true }
def DocumentSignersUptoSaid : Prop := documentSignersUptoRow.holds Tryz.pinned (OpenSpec.upto documentSignersSpec)

/-- 'sealwrightlaw33.DocumentVerify', WHERE WHAT IT READS IS OF BULK AT MOST 1048576: true; the input reads as it did. -/
def documentVerifyUptoRow : OpenClaim := { program := "ytkggincjigbelaagreatdoor", sum := "ccd10ad075bdd2bf5e10cedbe82c43d2db2c6d46a76c4cafd876331d6c0ba072", func := "sealwright/sealwrightlaw33.DocumentVerify", spec := "documentVerify", inPlace := ["internal/bytealg.IndexByte", "internal/bytealg.abigen_runtime_cmpstring", "internal/bytealg.Compare"], unfollowed := true, recurses := true, named := ["sealwright/digest.round256"], apart := false, laid := [("sealwright/digest.round256", laid_sealwright_digest_round256)], narrowed := true }
def DocumentVerifyUptoSaid : Prop := documentVerifyUptoRow.holds Tryz.pinned (OpenSpec.upto documentVerifySpec)

/-- 'sealwrightlaw33.DocumentThreshold', WHERE WHAT IT READS IS OF BULK AT MOST 1048576: true; the input reads as it did. -/
def documentThresholdUptoRow : OpenClaim := { program := "ytkggincjigbelaagreatdoor", sum := "ccd10ad075bdd2bf5e10cedbe82c43d2db2c6d46a76c4cafd876331d6c0ba072", func := "sealwright/sealwrightlaw33.DocumentThreshold", spec := "documentThreshold", inPlace := ["internal/bytealg.IndexByte", "internal/bytealg.abigen_runtime_cmpstring", "internal/bytealg.Compare"], unfollowed := true, recurses := true, named := ["sealwright/digest.round256"], apart := false, laid := [("sealwright/digest.round256", laid_sealwright_digest_round256)], narrowed := true }
def DocumentThresholdUptoSaid : Prop := documentThresholdUptoRow.holds Tryz.pinned (OpenSpec.upto documentThresholdSpec)

/-- 'sealwrightlaw33.DocumentMarks', WHERE WHAT IT READS IS OF BULK AT MOST 1048576: true; the input reads as it did. -/
def documentMarksUptoRow : OpenClaim := { program := "ytkggincjigbelaagreatdoor", sum := "ccd10ad075bdd2bf5e10cedbe82c43d2db2c6d46a76c4cafd876331d6c0ba072", func := "sealwright/sealwrightlaw33.DocumentMarks", spec := "documentMarks", inPlace := ["internal/bytealg.IndexByte", "internal/bytealg.abigen_runtime_cmpstring", "internal/bytealg.Compare"], unfollowed := true, recurses := true, named := ["sealwright/digest.round256"], apart := false, laid := [("sealwright/digest.round256", laid_sealwright_digest_round256)], narrowed := true }
def DocumentMarksUptoSaid : Prop := documentMarksUptoRow.holds Tryz.pinned (OpenSpec.upto documentMarksSpec)

/-- 'sealwrightlaw33.DocumentDescribe', WHERE WHAT IT READS IS OF BULK AT MOST 1048576: true; the input reads as it did. -/
def documentDescribeUptoRow : OpenClaim := { program := "ytkggincjigbelaagreatdoor", sum := "ccd10ad075bdd2bf5e10cedbe82c43d2db2c6d46a76c4cafd876331d6c0ba072", func := "sealwright/sealwrightlaw33.DocumentDescribe", spec := "documentDescribe", inPlace := ["internal/bytealg.IndexByte", "internal/bytealg.abigen_runtime_cmpstring", "internal/bytealg.Compare"], unfollowed := true, recurses := true, named := ["sealwright/digest.round256"], apart := false, laid := [("sealwright/digest.round256", laid_sealwright_digest_round256)], narrowed := true }
def DocumentDescribeUptoSaid : Prop := documentDescribeUptoRow.holds Tryz.pinned (OpenSpec.upto documentDescribeSpec)

end Rows
end Go.Proofs.YtkggincjigbelaaGreatDoor
