/-
  NARROWER THAN 'FOR EVERY INPUT', by the rows' own cells (each row's printed sentence says how): CatalogNew: laid · CatalogAdd: laid · CatalogFull: laid · CatalogInForce: laid · CatalogOrder: laid · CatalogMonotone: laid.
  DERIVED. THE GIVEN ROWS OF THIS SEAT. 6 by the template 'for every input the law returns true; each argument reads behind the call as it read before'; 0 by the template 'total and deterministic' (their statements: YtbfnljmmepcbfaaGreatDoorTotals.lean).
  GIVEN WITH THE SEED: the statements are not yours to turn. If you find one false, say at which input.
  Laid BY PROGRAM, IN A SANDBOX (cutbox-rows.mjs): the forced cells as the released guide's own fill.sh prints them over the translation bfd90ffcb5531ac0… (all of the seat's roots in one cut). By AI agents, Wed Nov 11 2026. No macro, syntax, notation, axiom, sorry.
-/
import Derived.Test.YtbfnljmmepcbfaaGreatDoorChecked
import GoSem.Claim
import GoSem.ClaimJoined
import GoSem.ClaimMapViews
import Derived.JoinedTies
import Derived.KernelRfl
namespace Go.Proofs.YtbfnljmmepcbfaaGreatDoor
/- THE CELL 'sum', in the pinned program and in every row, IS THE sha256 OF THE DUMP (.gsa) THAT YtbfnljmmepcbfaaGreatDoorProg.lean LOADS. Nothing in Lean hashes anything: it is a label: what it is worth is what the hold of that sum in a sandbox is worth. -/
noncomputable def Tryz.pinned : Pinned := { name := "ytbfnljmmepcbfaagreatdoor", sum := "bfd90ffcb5531ac04fde3449edc07f9d2a811fa7ae7a038139e7afac1e686622", checked := Tryz.checked }
namespace Rows
def none {H : Type} : Left H := { results := [], args := [] }

/- WHAT THE LISTED PACKAGE-LEVEL VARIABLES READ AS WHEN THE CALL BEGINS. Each datum BY PROGRAM (the guide's laid-datum.mjs) off the statement by which the dump's own 'gosem.cut.vars' lays the variable. In a bare row this is a premise. The card (YtbfnljmmepcbfaaGreatDoorCards.lean) ties it to the program's text. -/
def laid_sealwright_digest_round256 {H : Type} : DataW H := .agg [.lit (.int .u32 1116352408), .lit (.int .u32 1899447441), .lit (.int .u32 3049323471), .lit (.int .u32 3921009573), .lit (.int .u32 961987163), .lit (.int .u32 1508970993), .lit (.int .u32 2453635748), .lit (.int .u32 2870763221), .lit (.int .u32 3624381080), .lit (.int .u32 310598401), .lit (.int .u32 607225278), .lit (.int .u32 1426881987), .lit (.int .u32 1925078388), .lit (.int .u32 2162078206), .lit (.int .u32 2614888103), .lit (.int .u32 3248222580), .lit (.int .u32 3835390401), .lit (.int .u32 4022224774), .lit (.int .u32 264347078), .lit (.int .u32 604807628), .lit (.int .u32 770255983), .lit (.int .u32 1249150122), .lit (.int .u32 1555081692), .lit (.int .u32 1996064986), .lit (.int .u32 2554220882), .lit (.int .u32 2821834349), .lit (.int .u32 2952996808), .lit (.int .u32 3210313671), .lit (.int .u32 3336571891), .lit (.int .u32 3584528711), .lit (.int .u32 113926993), .lit (.int .u32 338241895), .lit (.int .u32 666307205), .lit (.int .u32 773529912), .lit (.int .u32 1294757372), .lit (.int .u32 1396182291), .lit (.int .u32 1695183700), .lit (.int .u32 1986661051), .lit (.int .u32 2177026350), .lit (.int .u32 2456956037), .lit (.int .u32 2730485921), .lit (.int .u32 2820302411), .lit (.int .u32 3259730800), .lit (.int .u32 3345764771), .lit (.int .u32 3516065817), .lit (.int .u32 3600352804), .lit (.int .u32 4094571909), .lit (.int .u32 275423344), .lit (.int .u32 430227734), .lit (.int .u32 506948616), .lit (.int .u32 659060556), .lit (.int .u32 883997877), .lit (.int .u32 958139571), .lit (.int .u32 1322822218), .lit (.int .u32 1537002063), .lit (.int .u32 1747873779), .lit (.int .u32 1955562222), .lit (.int .u32 2024104815), .lit (.int .u32 2227730452), .lit (.int .u32 2361852424), .lit (.int .u32 2428436474), .lit (.int .u32 2756734187), .lit (.int .u32 3204031479), .lit (.int .u32 3329325298)]

/-- 'sealwrightlaw34.CatalogNew': WHATEVER THE INPUT: true; the input reads as it did. -/
def catalogNewSpec : ChangeSpec := { name := "catalogNew", fn := fun _ => fun
  | [d1, d2, d3, d4] => { results := [.lit (.bool true)], args := [d1, d2, d3, d4] }
  | _ => none }
def catalogNewRow : OpenClaim := { program := "ytbfnljmmepcbfaagreatdoor", sum := "bfd90ffcb5531ac04fde3449edc07f9d2a811fa7ae7a038139e7afac1e686622", func := "sealwright/sealwrightlaw34.CatalogNew", spec := "catalogNew", inPlace := ["internal/bytealg.IndexByte", "internal/bytealg.abigen_runtime_cmpstring", "internal/bytealg.Compare", "slices.overlaps[sealwright/api.Manifest]", "slices.overlaps[sealwright/api.Withdrawal]"], unfollowed := true, recurses := true, named := ["sealwright/digest.round256"], apart := false, laid := [("sealwright/digest.round256", laid_sealwright_digest_round256)] }
def CatalogNewSaid : Prop := catalogNewRow.holds Tryz.pinned (OpenSpec.ofChange catalogNewSpec)

/-- ITS FALSE NEIGHBOUR: 'it returns false'. Refute it at one input. -/
def catalogNewWrong : ChangeSpec := { name := "catalogNew", fn := fun _ => fun
  | [d1, d2, d3, d4] => { results := [.lit (.bool false)], args := [d1, d2, d3, d4] }
  | _ => none }
def CatalogNewWrongFalsely : Prop := catalogNewRow.holds Tryz.pinned (OpenSpec.ofChange catalogNewWrong)

/-- 'sealwrightlaw34.CatalogAdd': WHATEVER THE INPUT: true; the input reads as it did. -/
def catalogAddSpec : ChangeSpec := { name := "catalogAdd", fn := fun _ => fun
  | [d1, d2, d3, d4, d5, d6] => { results := [.lit (.bool true)], args := [d1, d2, d3, d4, d5, d6] }
  | _ => none }
def catalogAddRow : OpenClaim := { program := "ytbfnljmmepcbfaagreatdoor", sum := "bfd90ffcb5531ac04fde3449edc07f9d2a811fa7ae7a038139e7afac1e686622", func := "sealwright/sealwrightlaw34.CatalogAdd", spec := "catalogAdd", inPlace := ["internal/bytealg.IndexByte", "internal/bytealg.abigen_runtime_cmpstring", "internal/bytealg.Compare", "slices.overlaps[sealwright/api.Manifest]", "slices.overlaps[sealwright/api.Withdrawal]"], unfollowed := true, recurses := true, named := ["sealwright/digest.round256"], apart := false, laid := [("sealwright/digest.round256", laid_sealwright_digest_round256)] }
def CatalogAddSaid : Prop := catalogAddRow.holds Tryz.pinned (OpenSpec.ofChange catalogAddSpec)

/-- ITS FALSE NEIGHBOUR: 'it returns false'. Refute it at one input. -/
def catalogAddWrong : ChangeSpec := { name := "catalogAdd", fn := fun _ => fun
  | [d1, d2, d3, d4, d5, d6] => { results := [.lit (.bool false)], args := [d1, d2, d3, d4, d5, d6] }
  | _ => none }
def CatalogAddWrongFalsely : Prop := catalogAddRow.holds Tryz.pinned (OpenSpec.ofChange catalogAddWrong)

/-- 'sealwrightlaw34.CatalogFull': WHATEVER THE INPUT: true; the input reads as it did. -/
def catalogFullSpec : ChangeSpec := { name := "catalogFull", fn := fun _ => fun
  | [d1, d2] => { results := [.lit (.bool true)], args := [d1, d2] }
  | _ => none }
def catalogFullRow : OpenClaim := { program := "ytbfnljmmepcbfaagreatdoor", sum := "bfd90ffcb5531ac04fde3449edc07f9d2a811fa7ae7a038139e7afac1e686622", func := "sealwright/sealwrightlaw34.CatalogFull", spec := "catalogFull", inPlace := ["internal/bytealg.IndexByte", "internal/bytealg.abigen_runtime_cmpstring", "internal/bytealg.Compare", "slices.overlaps[sealwright/api.Manifest]", "slices.overlaps[sealwright/api.Withdrawal]"], unfollowed := true, recurses := true, named := ["sealwright/digest.round256"], apart := false, laid := [("sealwright/digest.round256", laid_sealwright_digest_round256)] }
def CatalogFullSaid : Prop := catalogFullRow.holds Tryz.pinned (OpenSpec.ofChange catalogFullSpec)

/-- ITS FALSE NEIGHBOUR: 'it returns false'. Refute it at one input. -/
def catalogFullWrong : ChangeSpec := { name := "catalogFull", fn := fun _ => fun
  | [d1, d2] => { results := [.lit (.bool false)], args := [d1, d2] }
  | _ => none }
def CatalogFullWrongFalsely : Prop := catalogFullRow.holds Tryz.pinned (OpenSpec.ofChange catalogFullWrong)

/-- 'sealwrightlaw34.CatalogInForce': WHATEVER THE INPUT: true; the input reads as it did. -/
def catalogInForceSpec : ChangeSpec := { name := "catalogInForce", fn := fun _ => fun
  | [d1, d2, d3, d4, d5] => { results := [.lit (.bool true)], args := [d1, d2, d3, d4, d5] }
  | _ => none }
def catalogInForceRow : OpenClaim := { program := "ytbfnljmmepcbfaagreatdoor", sum := "bfd90ffcb5531ac04fde3449edc07f9d2a811fa7ae7a038139e7afac1e686622", func := "sealwright/sealwrightlaw34.CatalogInForce", spec := "catalogInForce", inPlace := ["internal/bytealg.IndexByte", "internal/bytealg.abigen_runtime_cmpstring", "internal/bytealg.Compare", "slices.overlaps[sealwright/api.Manifest]", "slices.overlaps[sealwright/api.Withdrawal]"], unfollowed := true, recurses := true, named := ["sealwright/digest.round256"], apart := false, laid := [("sealwright/digest.round256", laid_sealwright_digest_round256)] }
def CatalogInForceSaid : Prop := catalogInForceRow.holds Tryz.pinned (OpenSpec.ofChange catalogInForceSpec)

/-- ITS FALSE NEIGHBOUR: 'it returns false'. Refute it at one input. -/
def catalogInForceWrong : ChangeSpec := { name := "catalogInForce", fn := fun _ => fun
  | [d1, d2, d3, d4, d5] => { results := [.lit (.bool false)], args := [d1, d2, d3, d4, d5] }
  | _ => none }
def CatalogInForceWrongFalsely : Prop := catalogInForceRow.holds Tryz.pinned (OpenSpec.ofChange catalogInForceWrong)

/-- 'sealwrightlaw34.CatalogOrder': WHATEVER THE INPUT: true; the input reads as it did. -/
def catalogOrderSpec : ChangeSpec := { name := "catalogOrder", fn := fun _ => fun
  | [d1, d2, d3, d4, d5, d6] => { results := [.lit (.bool true)], args := [d1, d2, d3, d4, d5, d6] }
  | _ => none }
def catalogOrderRow : OpenClaim := { program := "ytbfnljmmepcbfaagreatdoor", sum := "bfd90ffcb5531ac04fde3449edc07f9d2a811fa7ae7a038139e7afac1e686622", func := "sealwright/sealwrightlaw34.CatalogOrder", spec := "catalogOrder", inPlace := ["internal/bytealg.IndexByte", "internal/bytealg.abigen_runtime_cmpstring", "internal/bytealg.Compare", "slices.overlaps[sealwright/api.Manifest]", "slices.overlaps[sealwright/api.Withdrawal]"], unfollowed := true, recurses := true, named := ["sealwright/digest.round256"], apart := false, laid := [("sealwright/digest.round256", laid_sealwright_digest_round256)] }
def CatalogOrderSaid : Prop := catalogOrderRow.holds Tryz.pinned (OpenSpec.ofChange catalogOrderSpec)

/-- ITS FALSE NEIGHBOUR: 'it returns false'. Refute it at one input. -/
def catalogOrderWrong : ChangeSpec := { name := "catalogOrder", fn := fun _ => fun
  | [d1, d2, d3, d4, d5, d6] => { results := [.lit (.bool false)], args := [d1, d2, d3, d4, d5, d6] }
  | _ => none }
def CatalogOrderWrongFalsely : Prop := catalogOrderRow.holds Tryz.pinned (OpenSpec.ofChange catalogOrderWrong)

/-- 'sealwrightlaw34.CatalogMonotone': WHATEVER THE INPUT: true; the input reads as it did. -/
def catalogMonotoneSpec : ChangeSpec := { name := "catalogMonotone", fn := fun _ => fun
  | [d1, d2, d3, d4, d5] => { results := [.lit (.bool true)], args := [d1, d2, d3, d4, d5] }
  | _ => none }
def catalogMonotoneRow : OpenClaim := { program := "ytbfnljmmepcbfaagreatdoor", sum := "bfd90ffcb5531ac04fde3449edc07f9d2a811fa7ae7a038139e7afac1e686622", func := "sealwright/sealwrightlaw34.CatalogMonotone", spec := "catalogMonotone", inPlace := ["internal/bytealg.IndexByte", "internal/bytealg.abigen_runtime_cmpstring", "internal/bytealg.Compare", "slices.overlaps[sealwright/api.Manifest]", "slices.overlaps[sealwright/api.Withdrawal]"], unfollowed := true, recurses := true, named := ["sealwright/digest.round256"], apart := false, laid := [("sealwright/digest.round256", laid_sealwright_digest_round256)] }
def CatalogMonotoneSaid : Prop := catalogMonotoneRow.holds Tryz.pinned (OpenSpec.ofChange catalogMonotoneSpec)

/-- ITS FALSE NEIGHBOUR: 'it returns false'. Refute it at one input. -/
def catalogMonotoneWrong : ChangeSpec := { name := "catalogMonotone", fn := fun _ => fun
  | [d1, d2, d3, d4, d5] => { results := [.lit (.bool false)], args := [d1, d2, d3, d4, d5] }
  | _ => none }
def CatalogMonotoneWrongFalsely : Prop := catalogMonotoneRow.holds Tryz.pinned (OpenSpec.ofChange catalogMonotoneWrong)

/- THE SECOND FORM. 'bulk': how many values and letters a reading holds, each counted each time it is reached (what is shared counts as often as it is met; a slice's spare places count too). A statement '..UptoSaid' is the law's where the arguments, and the package variables that the reading takes, are together of bulk at most 1048576: NARROWER than '..Said'. Prove '..Said' where nothing that the law and all that it calls make is longer than what came in: it says more and counts as full. Else prove '..UptoSaid'. A law counts once. -/
mutual
def uptoBulk {H : Type} : DataW H → Nat
  | .lit (.string bytes) => bytes.length + 1
  | .lit _ => 1
  | .nil => 1
  | .ptr d => uptoBulk d + 1
  | .slice elems spare => uptoBulkAll elems + uptoBulkAll spare + 1
  | .agg parts => uptoBulkAll parts + 1
  | .iface _ d => uptoBulk d + 1
  | .map entries => uptoBulkEntries entries + 1
  | .held _ => 1
def uptoBulkAll {H : Type} : List (DataW H) → Nat
  | [] => 0
  | d :: r => uptoBulk d + uptoBulkAll r
def uptoBulkEntries {H : Type} : List (Lit × DataW H) → Nat
  | [] => 0
  | x :: r => uptoBulkEntry x + uptoBulkEntries r
def uptoBulkEntry {H : Type} : Lit × DataW H → Nat
  | (.string bytes, d) => bytes.length + uptoBulk d + 1
  | (_, d) => uptoBulk d + 1
 end
def uptoSmall : (H : Type) → List (DataW H) → Bool := fun _ ds => decide (uptoBulkAll ds ≤ 1048576)
def OpenSpec.upto (s : _root_.Go.ChangeSpec) : _root_.Go.OpenSpec := { _root_.Go.OpenSpec.ofChange s with cond := some uptoSmall }

/-- 'sealwrightlaw34.CatalogNew', WHERE WHAT IT READS IS OF BULK AT MOST 1048576: true; the input reads as it did. -/
def catalogNewUptoRow : OpenClaim := { program := "ytbfnljmmepcbfaagreatdoor", sum := "bfd90ffcb5531ac04fde3449edc07f9d2a811fa7ae7a038139e7afac1e686622", func := "sealwright/sealwrightlaw34.CatalogNew", spec := "catalogNew", inPlace := ["internal/bytealg.IndexByte", "internal/bytealg.abigen_runtime_cmpstring", "internal/bytealg.Compare", "slices.overlaps[sealwright/api.Manifest]", "slices.overlaps[sealwright/api.Withdrawal]"], unfollowed := true, recurses := true, named := ["sealwright/digest.round256"], apart := false, laid := [("sealwright/digest.round256", laid_sealwright_digest_round256)], narrowed := true }
def CatalogNewUptoSaid : Prop := catalogNewUptoRow.holds Tryz.pinned (OpenSpec.upto catalogNewSpec)

/-- 'sealwrightlaw34.CatalogAdd', WHERE WHAT IT READS IS OF BULK AT MOST 1048576: true; the input reads as it did. -/
def catalogAddUptoRow : OpenClaim := { program := "ytbfnljmmepcbfaagreatdoor", sum := "bfd90ffcb5531ac04fde3449edc07f9d2a811fa7ae7a038139e7afac1e686622", func := "sealwright/sealwrightlaw34.CatalogAdd", spec := "catalogAdd", inPlace := ["internal/bytealg.IndexByte", "internal/bytealg.abigen_runtime_cmpstring", "internal/bytealg.Compare", "slices.overlaps[sealwright/api.Manifest]", "slices.overlaps[sealwright/api.Withdrawal]"], unfollowed := true, recurses := true, named := ["sealwright/digest.round256"], apart := false, laid := [("sealwright/digest.round256", laid_sealwright_digest_round256)], narrowed := true }
def CatalogAddUptoSaid : Prop := catalogAddUptoRow.holds Tryz.pinned (OpenSpec.upto catalogAddSpec)

/-- 'sealwrightlaw34.CatalogFull', WHERE WHAT IT READS IS OF BULK AT MOST 1048576: true; the input reads as it did. -/
def catalogFullUptoRow : OpenClaim := { program := "ytbfnljmmepcbfaagreatdoor", sum := "bfd90ffcb5531ac04fde3449edc07f9d2a811fa7ae7a038139e7afac1e686622", func := "sealwright/sealwrightlaw34.CatalogFull", spec := "catalogFull", inPlace := ["internal/bytealg.IndexByte", "internal/bytealg.abigen_runtime_cmpstring", "internal/bytealg.Compare", "slices.overlaps[sealwright/api.Manifest]", "slices.overlaps[sealwright/api.Withdrawal]"], unfollowed := true, recurses := true, named := ["sealwright/digest.round256"], apart := false, laid := [("sealwright/digest.round256", laid_sealwright_digest_round256)], narrowed := true }
def CatalogFullUptoSaid : Prop := catalogFullUptoRow.holds Tryz.pinned (OpenSpec.upto catalogFullSpec)

/-- 'sealwrightlaw34.CatalogInForce', WHERE WHAT IT READS IS OF BULK AT MOST 1048576: true; the input reads as it did. -/
def catalogInForceUptoRow : OpenClaim := { program := "ytbfnljmmepcbfaagreatdoor", sum := "bfd90ffcb5531ac04fde3449edc07f9d2a811fa7ae7a038139e7afac1e686622", func := "sealwright/sealwrightlaw34.CatalogInForce", spec := "catalogInForce", inPlace := ["internal/bytealg.IndexByte", "internal/bytealg.abigen_runtime_cmpstring", "internal/bytealg.Compare", "slices.overlaps[sealwright/api.Manifest]", "slices.overlaps[sealwright/api.Withdrawal]"], unfollowed := true, recurses := true, named := ["sealwright/digest.round256"], apart := false, laid := [("sealwright/digest.round256", laid_sealwright_digest_round256)], narrowed := true }
def CatalogInForceUptoSaid : Prop := catalogInForceUptoRow.holds Tryz.pinned (OpenSpec.upto catalogInForceSpec)

/-- 'sealwrightlaw34.CatalogOrder', WHERE WHAT IT READS IS OF BULK AT MOST 1048576: true; the input reads as it did. -/
def catalogOrderUptoRow : OpenClaim := { program := "ytbfnljmmepcbfaagreatdoor", sum := "bfd90ffcb5531ac04fde3449edc07f9d2a811fa7ae7a038139e7afac1e686622", func := "sealwright/sealwrightlaw34.CatalogOrder", spec := "catalogOrder", inPlace := ["internal/bytealg.IndexByte", "internal/bytealg.abigen_runtime_cmpstring", "internal/bytealg.Compare", "slices.overlaps[sealwright/api.Manifest]", "slices.overlaps[sealwright/api.Withdrawal]"], unfollowed := true, recurses := true, named := ["sealwright/digest.round256"], apart := false, laid := [("sealwright/digest.round256", laid_sealwright_digest_round256)], narrowed := true }
def CatalogOrderUptoSaid : Prop := catalogOrderUptoRow.holds Tryz.pinned (OpenSpec.upto catalogOrderSpec)

/-- 'sealwrightlaw34.CatalogMonotone', WHERE WHAT IT READS IS OF BULK AT MOST 1048576: true; the input reads as it did. -/
def catalogMonotoneUptoRow : OpenClaim := { program := "ytbfnljmmepcbfaagreatdoor", sum := "bfd90ffcb5531ac04fde3449edc07f9d2a811fa7ae7a038139e7afac1e686622", func := "sealwright/sealwrightlaw34.CatalogMonotone", spec := "catalogMonotone", inPlace := ["internal/bytealg.IndexByte", "internal/bytealg.abigen_runtime_cmpstring", "internal/bytealg.Compare", "slices.overlaps[sealwright/api.Manifest]", "slices.overlaps[sealwright/api.Withdrawal]"], unfollowed := true, recurses := true, named := ["sealwright/digest.round256"], apart := false, laid := [("sealwright/digest.round256", laid_sealwright_digest_round256)], narrowed := true }
def CatalogMonotoneUptoSaid : Prop := catalogMonotoneUptoRow.holds Tryz.pinned (OpenSpec.upto catalogMonotoneSpec)

end Rows
end Go.Proofs.YtbfnljmmepcbfaaGreatDoor
