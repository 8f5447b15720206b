/-
  The tied card of ScriptRoundTrip. No condition.
-/
import Derived.Test.YtmhhnklkcmpdkaaGreatDoorGaPA
import Derived.Test.YtmhhnklkcmpdkaaGreatDoorCards
import Derived.Test.YtmhhnklkcmpdkaaGreatDoorTie
import Derived.SevenTiedAt
open List renaming all_eq_true -> aI
open Option renaming some -> ao
namespace Go.Proofs.YtmhhnklkcmpdkaaGreatDoor.gscriptRoundTrip
set_option maxRecDepth 100000
theorem byText : Rows.scriptRoundTripRow.wfByText (OpenSpec.ofChange Rows.scriptRoundTripSpec) = true := by kernel_rfl
theorem isMain : Tryz.pinned.checked.prog.mainIs = some ((true, "bcba8fb281755c48e9fad0cbe06bd2854efc728ad27a33e6d68bcb26a4f0924b").1, (true, "bcba8fb281755c48e9fad0cbe06bd2854efc728ad27a33e6d68bcb26a4f0924b").2.toList) := by kernel_rfl
theorem looking : true = Tryz.pinned.checked.prog.looks [] := by kernel_rfl
theorem noStand : ([23].all fun u => !Tryz.pinned.checked.prog.wantsStandIn u) = true := by kernel_rfl
theorem going : false = Rows.scriptRoundTripRow.goesBy Tryz.pinned.checked.prog := by kernel_rfl
theorem noHarness : (!(true, "bcba8fb281755c48e9fad0cbe06bd2854efc728ad27a33e6d68bcb26a4f0924b").1 && (true, "bcba8fb281755c48e9fad0cbe06bd2854efc728ad27a33e6d68bcb26a4f0924b").2.isEmpty && !true) = false := by decide
end Go.Proofs.YtmhhnklkcmpdkaaGreatDoor.gscriptRoundTrip
namespace Go.Proofs.YtmhhnklkcmpdkaaGreatDoor
theorem scriptRoundTrip_card : Rows.ScriptRoundTripCardSaid :=
  Claim7.holds_tied_plain_at .later [] [.data, .data, .data, .data, .sentinel, .sentinel, .pinned] true (true, "bcba8fb281755c48e9fad0cbe06bd2854efc728ad27a33e6d68bcb26a4f0924b") true
    scriptRoundTrip_holds (fun _ h => by cases h) gscriptRoundTrip.byText (fun _ h => by cases h) scriptRoundTrip_row_tie rfl ⟨rfl, rfl⟩ gscriptRoundTrip.isMain gscriptRoundTrip.noHarness
    (fun f fn hf hfn => by
      obtain rfl : f = 4 := ao.inj (gscriptRoundTrip.named.symm.trans hf) |>.symm
      obtain rfl : fn = Tryz.f4 := (ao.inj (Tryz.func4.symm.trans hfn)).symm
      exact ⟨gscriptRoundTrip.looking, fun j t ht => by
        rw[Tryz.params4] at ht
        have hm : t ∈ [23] := by simpa using Array.mem_of_getElem? ht
        exact (show Tryz.pinned.checked.prog.wantsStandIn t = false by simpa using aI.1 gscriptRoundTrip.noStand t hm)⟩)
    gscriptRoundTrip.going
#print axioms scriptRoundTrip_card
end Go.Proofs.YtmhhnklkcmpdkaaGreatDoor
