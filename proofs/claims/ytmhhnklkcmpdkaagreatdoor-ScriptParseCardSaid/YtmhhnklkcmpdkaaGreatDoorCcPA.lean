/-
  The tied card of ScriptParse. No condition.
-/
import Derived.Test.YtmhhnklkcmpdkaaGreatDoorGcPA
import Derived.Test.YtmhhnklkcmpdkaaGreatDoorCards
import Derived.Test.YtmhhnklkcmpdkaaGreatDoorTie
import Derived.SevenTiedAt
open List renaming all_eq_true -> aI
open Option renaming some -> ao
namespace Go.Proofs.YtmhhnklkcmpdkaaGreatDoor.gscriptParse
set_option maxRecDepth 100000
theorem byText : Rows.scriptParseRow.wfByText (OpenSpec.ofChange Rows.scriptParseSpec) = true := by kernel_rfl
theorem isMain : Tryz.pinned.checked.prog.mainIs = some ((true, "bcba8fb281755c48e9fad0cbe06bd2854efc728ad27a33e6d68bcb26a4f0924b").1, (true, "bcba8fb281755c48e9fad0cbe06bd2854efc728ad27a33e6d68bcb26a4f0924b").2.toList) := by kernel_rfl
theorem looking : true = Tryz.pinned.checked.prog.looks [] := by kernel_rfl
theorem noStand : ([9, 23, 34, 23, 3, 23].all fun u => !Tryz.pinned.checked.prog.wantsStandIn u) = true := by kernel_rfl
theorem going : false = Rows.scriptParseRow.goesBy Tryz.pinned.checked.prog := by kernel_rfl
theorem noHarness : (!(true, "bcba8fb281755c48e9fad0cbe06bd2854efc728ad27a33e6d68bcb26a4f0924b").1 && (true, "bcba8fb281755c48e9fad0cbe06bd2854efc728ad27a33e6d68bcb26a4f0924b").2.isEmpty && !true) = false := by decide
end Go.Proofs.YtmhhnklkcmpdkaaGreatDoor.gscriptParse
namespace Go.Proofs.YtmhhnklkcmpdkaaGreatDoor
theorem scriptParse_card : Rows.ScriptParseCardSaid :=
  Claim7.holds_tied_plain_at .later [] [.data, .data, .data, .data, .sentinel, .sentinel, .pinned] true (true, "bcba8fb281755c48e9fad0cbe06bd2854efc728ad27a33e6d68bcb26a4f0924b") true
    scriptParse_holds (fun _ h => by cases h) gscriptParse.byText (fun _ h => by cases h) scriptParse_row_tie rfl ⟨rfl, rfl⟩ gscriptParse.isMain gscriptParse.noHarness
    (fun f fn hf hfn => by
      obtain rfl : f = 5 := ao.inj (gscriptParse.named.symm.trans hf) |>.symm
      obtain rfl : fn = Tryz.f5 := (ao.inj (Tryz.func5.symm.trans hfn)).symm
      exact ⟨gscriptParse.looking, fun j t ht => by
        rw[Tryz.params5] at ht
        have hm : t ∈ [9, 23, 34, 23, 3, 23] := by simpa using Array.mem_of_getElem? ht
        exact (show Tryz.pinned.checked.prog.wantsStandIn t = false by simpa using aI.1 gscriptParse.noStand t hm)⟩)
    gscriptParse.going
#print axioms scriptParse_card
end Go.Proofs.YtmhhnklkcmpdkaaGreatDoor
