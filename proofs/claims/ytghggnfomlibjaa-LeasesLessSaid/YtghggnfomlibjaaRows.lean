/-
  No cell of these rows narrows 'for every input' (looked for: loops, veiled, ifaces, maps, wideKeys, modest, calm, conditions, laid).
  DERIVED. THE GIVEN ROWS OF THIS SEAT. 5 by the template 'for every input the law returns true; each argument reads behind the call as it read before'; 0 by the template 'total and deterministic' (their statements: YtghggnfomlibjaaTotals.lean).
  GIVEN WITH THE SEED: the statements are not yours to turn. If you find one false, say at which input.
  Laid BY PROGRAM, IN A SANDBOX (cutbox-rows.mjs): the forced cells as the released guide's own fill.sh prints them over the translation 501bee256132e3a0… (all of the seat's roots in one cut). By AI agents, Wed Nov 11 2026. No macro, syntax, notation, axiom, sorry.
-/
import Derived.Test.YtghggnfomlibjaaChecked
import GoSem.Claim
import GoSem.ClaimJoined
import GoSem.ClaimMapViews
import Derived.JoinedTies
import Derived.KernelRfl
namespace Go.Proofs.Ytghggnfomlibjaa
/- THE CELL 'sum', in the pinned program and in every row, IS THE sha256 OF THE DUMP (.gsa) THAT YtghggnfomlibjaaProg.lean LOADS. Nothing in Lean hashes anything: it is a label: what it is worth is what the hold of that sum in a sandbox is worth. -/
noncomputable def Try.pinned : Pinned := { name := "ytghggnfomlibjaa", sum := "501bee256132e3a02b3002df40d4e9391ba00581ced8c475ebb34aec7149a69a", checked := Try.checked }
namespace Rows
def none {H : Type} : Left H := { results := [], args := [] }

/-- 'sealwrightlaw39.LeasesGrant': WHATEVER THE INPUT: true; the input reads as it did. -/
def leasesGrantSpec : ChangeSpec := { name := "leasesGrant", fn := fun _ => fun
  | [d1, d2, d3, d4, d5] => { results := [.lit (.bool true)], args := [d1, d2, d3, d4, d5] }
  | _ => none }
def leasesGrantRow : OpenClaim := { program := "ytghggnfomlibjaa", sum := "501bee256132e3a02b3002df40d4e9391ba00581ced8c475ebb34aec7149a69a", func := "sealwright/sealwrightlaw39.LeasesGrant", spec := "leasesGrant", inPlace := ["slices.overlaps[sealwright/api.Lease]", "slices.overlaps[sealwright/api.Hold]"], unfollowed := true, recurses := true, apart := false }
def LeasesGrantSaid : Prop := leasesGrantRow.holds Try.pinned (OpenSpec.ofChange leasesGrantSpec)

/-- ITS FALSE NEIGHBOUR: 'it returns false'. Refute it at one input. -/
def leasesGrantWrong : ChangeSpec := { name := "leasesGrant", fn := fun _ => fun
  | [d1, d2, d3, d4, d5] => { results := [.lit (.bool false)], args := [d1, d2, d3, d4, d5] }
  | _ => none }
def LeasesGrantWrongFalsely : Prop := leasesGrantRow.holds Try.pinned (OpenSpec.ofChange leasesGrantWrong)

/-- 'sealwrightlaw39.LeasesHold': WHATEVER THE INPUT: true; the input reads as it did. -/
def leasesHoldSpec : ChangeSpec := { name := "leasesHold", fn := fun _ => fun
  | [d1, d2, d3, d4, d5] => { results := [.lit (.bool true)], args := [d1, d2, d3, d4, d5] }
  | _ => none }
def leasesHoldRow : OpenClaim := { program := "ytghggnfomlibjaa", sum := "501bee256132e3a02b3002df40d4e9391ba00581ced8c475ebb34aec7149a69a", func := "sealwright/sealwrightlaw39.LeasesHold", spec := "leasesHold", inPlace := ["slices.overlaps[sealwright/api.Lease]", "slices.overlaps[sealwright/api.Hold]"], unfollowed := true, recurses := true, apart := false }
def LeasesHoldSaid : Prop := leasesHoldRow.holds Try.pinned (OpenSpec.ofChange leasesHoldSpec)

/-- ITS FALSE NEIGHBOUR: 'it returns false'. Refute it at one input. -/
def leasesHoldWrong : ChangeSpec := { name := "leasesHold", fn := fun _ => fun
  | [d1, d2, d3, d4, d5] => { results := [.lit (.bool false)], args := [d1, d2, d3, d4, d5] }
  | _ => none }
def LeasesHoldWrongFalsely : Prop := leasesHoldRow.holds Try.pinned (OpenSpec.ofChange leasesHoldWrong)

/-- 'sealwrightlaw39.LeasesExclusive': WHATEVER THE INPUT: true; the input reads as it did. -/
def leasesExclusiveSpec : ChangeSpec := { name := "leasesExclusive", fn := fun _ => fun
  | [d1, d2, d3] => { results := [.lit (.bool true)], args := [d1, d2, d3] }
  | _ => none }
def leasesExclusiveRow : OpenClaim := { program := "ytghggnfomlibjaa", sum := "501bee256132e3a02b3002df40d4e9391ba00581ced8c475ebb34aec7149a69a", func := "sealwright/sealwrightlaw39.LeasesExclusive", spec := "leasesExclusive", inPlace := ["slices.overlaps[sealwright/api.Lease]", "slices.overlaps[sealwright/api.Hold]"], unfollowed := true, recurses := true, apart := false }
def LeasesExclusiveSaid : Prop := leasesExclusiveRow.holds Try.pinned (OpenSpec.ofChange leasesExclusiveSpec)

/-- ITS FALSE NEIGHBOUR: 'it returns false'. Refute it at one input. -/
def leasesExclusiveWrong : ChangeSpec := { name := "leasesExclusive", fn := fun _ => fun
  | [d1, d2, d3] => { results := [.lit (.bool false)], args := [d1, d2, d3] }
  | _ => none }
def LeasesExclusiveWrongFalsely : Prop := leasesExclusiveRow.holds Try.pinned (OpenSpec.ofChange leasesExclusiveWrong)

/-- 'sealwrightlaw39.LeasesSweep': WHATEVER THE INPUT: true; the input reads as it did. -/
def leasesSweepSpec : ChangeSpec := { name := "leasesSweep", fn := fun _ => fun
  | [d1, d2, d3, d4, d5] => { results := [.lit (.bool true)], args := [d1, d2, d3, d4, d5] }
  | _ => none }
def leasesSweepRow : OpenClaim := { program := "ytghggnfomlibjaa", sum := "501bee256132e3a02b3002df40d4e9391ba00581ced8c475ebb34aec7149a69a", func := "sealwright/sealwrightlaw39.LeasesSweep", spec := "leasesSweep", inPlace := ["slices.overlaps[sealwright/api.Lease]", "slices.overlaps[sealwright/api.Hold]"], unfollowed := true, recurses := true, apart := false }
def LeasesSweepSaid : Prop := leasesSweepRow.holds Try.pinned (OpenSpec.ofChange leasesSweepSpec)

/-- ITS FALSE NEIGHBOUR: 'it returns false'. Refute it at one input. -/
def leasesSweepWrong : ChangeSpec := { name := "leasesSweep", fn := fun _ => fun
  | [d1, d2, d3, d4, d5] => { results := [.lit (.bool false)], args := [d1, d2, d3, d4, d5] }
  | _ => none }
def LeasesSweepWrongFalsely : Prop := leasesSweepRow.holds Try.pinned (OpenSpec.ofChange leasesSweepWrong)

/-- 'sealwrightlaw39.LeasesLess': WHATEVER THE INPUT: true; the input reads as it did. -/
def leasesLessSpec : ChangeSpec := { name := "leasesLess", fn := fun _ => fun
  | [d1, d2, d3, d4, d5] => { results := [.lit (.bool true)], args := [d1, d2, d3, d4, d5] }
  | _ => none }
def leasesLessRow : OpenClaim := { program := "ytghggnfomlibjaa", sum := "501bee256132e3a02b3002df40d4e9391ba00581ced8c475ebb34aec7149a69a", func := "sealwright/sealwrightlaw39.LeasesLess", spec := "leasesLess", inPlace := ["slices.overlaps[sealwright/api.Lease]", "slices.overlaps[sealwright/api.Hold]"], unfollowed := true, recurses := true, apart := false }
def LeasesLessSaid : Prop := leasesLessRow.holds Try.pinned (OpenSpec.ofChange leasesLessSpec)

/-- ITS FALSE NEIGHBOUR: 'it returns false'. Refute it at one input. -/
def leasesLessWrong : ChangeSpec := { name := "leasesLess", fn := fun _ => fun
  | [d1, d2, d3, d4, d5] => { results := [.lit (.bool false)], args := [d1, d2, d3, d4, d5] }
  | _ => none }
def LeasesLessWrongFalsely : Prop := leasesLessRow.holds Try.pinned (OpenSpec.ofChange leasesLessWrong)

/- THE SECOND FORM. 'bulk': how many values and letters a reading holds, each counted each time it is reached (what is shared counts as often as it is met; a slice's spare places count too). A statement '..UptoSaid' is the law's where the arguments, and the package variables that the reading takes, are together of bulk at most 1048576: NARROWER than '..Said'. Prove '..Said' where nothing that the law and all that it calls make is longer than what came in: it says more and counts as full. Else prove '..UptoSaid'. A law counts once. -/
mutual
def uptoBulk {H : Type} : DataW H → Nat
  | .lit (.string bytes) => bytes.length + 1
  | .lit _ => 1
  | .nil => 1
  | .ptr d => uptoBulk d + 1
  | .slice elems spare => uptoBulkAll elems + uptoBulkAll spare + 1
  | .agg parts => uptoBulkAll parts + 1
  | .iface _ d => uptoBulk d + 1
  | .map entries => uptoBulkEntries entries + 1
  | .held _ => 1
def uptoBulkAll {H : Type} : List (DataW H) → Nat
  | [] => 0
  | d :: r => uptoBulk d + uptoBulkAll r
def uptoBulkEntries {H : Type} : List (Lit × DataW H) → Nat
  | [] => 0
  | x :: r => uptoBulkEntry x + uptoBulkEntries r
def uptoBulkEntry {H : Type} : Lit × DataW H → Nat
  | (.string bytes, d) => bytes.length + uptoBulk d + 1
  | (_, d) => uptoBulk d + 1
 end
def uptoSmall : (H : Type) → List (DataW H) → Bool := fun _ ds => decide (uptoBulkAll ds ≤ 1048576)
def OpenSpec.upto (s : _root_.Go.ChangeSpec) : _root_.Go.OpenSpec := { _root_.Go.OpenSpec.ofChange s with cond := some uptoSmall }

/-- 'sealwrightlaw39.LeasesGrant', WHERE WHAT IT READS IS OF BULK AT MOST 1048576: true; the input reads as it did. -/
def leasesGrantUptoRow : OpenClaim := { program := "ytghggnfomlibjaa", sum := "501bee256132e3a02b3002df40d4e9391ba00581ced8c475ebb34aec7149a69a", func := "sealwright/sealwrightlaw39.LeasesGrant", spec := "leasesGrant", inPlace := ["slices.overlaps[sealwright/api.Lease]", "slices.overlaps[sealwright/api.Hold]"], unfollowed := true, recurses := true, apart := false, narrowed := true }
def LeasesGrantUptoSaid : Prop := leasesGrantUptoRow.holds Try.pinned (OpenSpec.upto leasesGrantSpec)

/-- 'sealwrightlaw39.LeasesHold', WHERE WHAT IT READS IS OF BULK AT MOST 1048576: true; the input reads as it did. -/
def leasesHoldUptoRow : OpenClaim := { program := "ytghggnfomlibjaa", sum := "501bee256132e3a02b3002df40d4e9391ba00581ced8c475ebb34aec7149a69a", func := "sealwright/sealwrightlaw39.LeasesHold", spec := "leasesHold", inPlace := ["slices.overlaps[sealwright/api.Lease]", "slices.overlaps[sealwright/api.Hold]"], unfollowed := true, recurses := true, apart := false, narrowed := true }
def LeasesHoldUptoSaid : Prop := leasesHoldUptoRow.holds Try.pinned (OpenSpec.upto leasesHoldSpec)

/-- 'sealwrightlaw39.LeasesExclusive', WHERE WHAT IT READS IS OF BULK AT MOST 1048576: true; the input reads as it did. -/
def leasesExclusiveUptoRow : OpenClaim := { program := "ytghggnfomlibjaa", sum := "501bee256132e3a02b3002df40d4e9391ba00581ced8c475ebb34aec7149a69a", func := "sealwright/sealwrightlaw39.LeasesExclusive", spec := "leasesExclusive", inPlace := ["slices.overlaps[sealwright/api.Lease]", "slices.overlaps[sealwright/api.Hold]"], unfollowed := true, recurses := true, apart := false, narrowed := true }
def LeasesExclusiveUptoSaid : Prop := leasesExclusiveUptoRow.holds Try.pinned (OpenSpec.upto leasesExclusiveSpec)

/-- 'sealwrightlaw39.LeasesSweep', WHERE WHAT IT READS IS OF BULK AT MOST 1048576: true; the input reads as it did. -/
def leasesSweepUptoRow : OpenClaim := { program := "ytghggnfomlibjaa", sum := "501bee256132e3a02b3002df40d4e9391ba00581ced8c475ebb34aec7149a69a", func := "sealwright/sealwrightlaw39.LeasesSweep", spec := "leasesSweep", inPlace := ["slices.overlaps[sealwright/api.Lease]", "slices.overlaps[sealwright/api.Hold]"], unfollowed := true, recurses := true, apart := false, narrowed := true }
def LeasesSweepUptoSaid : Prop := leasesSweepUptoRow.holds Try.pinned (OpenSpec.upto leasesSweepSpec)

/-- 'sealwrightlaw39.LeasesLess', WHERE WHAT IT READS IS OF BULK AT MOST 1048576: true; the input reads as it did. -/
def leasesLessUptoRow : OpenClaim := { program := "ytghggnfomlibjaa", sum := "501bee256132e3a02b3002df40d4e9391ba00581ced8c475ebb34aec7149a69a", func := "sealwright/sealwrightlaw39.LeasesLess", spec := "leasesLess", inPlace := ["slices.overlaps[sealwright/api.Lease]", "slices.overlaps[sealwright/api.Hold]"], unfollowed := true, recurses := true, apart := false, narrowed := true }
def LeasesLessUptoSaid : Prop := leasesLessUptoRow.holds Try.pinned (OpenSpec.upto leasesLessSpec)

end Rows
end Go.Proofs.Ytghggnfomlibjaa
