/-
  The tied card of ScriptFormat. No condition.
-/
import Derived.Test.YtmhhnklkcmpdkaaGreatDoorGbPA
import Derived.Test.YtmhhnklkcmpdkaaGreatDoorCards
import Derived.Test.YtmhhnklkcmpdkaaGreatDoorTie
import Derived.SevenTiedAt
open List renaming all_eq_true -> aI
open Option renaming some -> ao
namespace Go.Proofs.YtmhhnklkcmpdkaaGreatDoor.gscriptFormat
set_option maxRecDepth 100000
theorem byText : Rows.scriptFormatRow.wfByText (OpenSpec.ofChange Rows.scriptFormatSpec) = true := by kernel_rfl
theorem isMain : Tryz.pinned.checked.prog.mainIs = some ((true, "bcba8fb281755c48e9fad0cbe06bd2854efc728ad27a33e6d68bcb26a4f0924b").1, (true, "bcba8fb281755c48e9fad0cbe06bd2854efc728ad27a33e6d68bcb26a4f0924b").2.toList) := by kernel_rfl
theorem looking : true = Tryz.pinned.checked.prog.looks [] := by kernel_rfl
theorem noStand : ([22, 23, 4].all fun u => !Tryz.pinned.checked.prog.wantsStandIn u) = true := by kernel_rfl
theorem going : false = Rows.scriptFormatRow.goesBy Tryz.pinned.checked.prog := by kernel_rfl
theorem noHarness : (!(true, "bcba8fb281755c48e9fad0cbe06bd2854efc728ad27a33e6d68bcb26a4f0924b").1 && (true, "bcba8fb281755c48e9fad0cbe06bd2854efc728ad27a33e6d68bcb26a4f0924b").2.isEmpty && !true) = false := by decide
end Go.Proofs.YtmhhnklkcmpdkaaGreatDoor.gscriptFormat
namespace Go.Proofs.YtmhhnklkcmpdkaaGreatDoor
theorem scriptFormat_card : Rows.ScriptFormatCardSaid :=
  Claim7.holds_tied_plain_at .later [] [.data, .data, .data, .data, .sentinel, .sentinel, .pinned] true (true, "bcba8fb281755c48e9fad0cbe06bd2854efc728ad27a33e6d68bcb26a4f0924b") true
    scriptFormat_holds (fun _ h => by cases h) gscriptFormat.byText (fun _ h => by cases h) scriptFormat_row_tie rfl ⟨rfl, rfl⟩ gscriptFormat.isMain gscriptFormat.noHarness
    (fun f fn hf hfn => by
      obtain rfl : f = 3 := ao.inj (gscriptFormat.named.symm.trans hf) |>.symm
      obtain rfl : fn = Tryz.f3 := (ao.inj (Tryz.func3.symm.trans hfn)).symm
      exact ⟨gscriptFormat.looking, fun j t ht => by
        rw[Tryz.params3] at ht
        have hm : t ∈ [22, 23, 4] := by simpa using Array.mem_of_getElem? ht
        exact (show Tryz.pinned.checked.prog.wantsStandIn t = false by simpa using aI.1 gscriptFormat.noStand t hm)⟩)
    gscriptFormat.going
#print axioms scriptFormat_card
end Go.Proofs.YtmhhnklkcmpdkaaGreatDoor
