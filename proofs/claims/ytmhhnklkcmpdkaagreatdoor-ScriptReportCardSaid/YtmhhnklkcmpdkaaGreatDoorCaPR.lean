/-
  The tied card of ScriptReport. No condition.
-/
import Derived.Test.YtmhhnklkcmpdkaaGreatDoorGaPR
import Derived.Test.YtmhhnklkcmpdkaaGreatDoorCards
import Derived.Test.YtmhhnklkcmpdkaaGreatDoorTie
import Derived.SevenTiedAt
open List renaming all_eq_true -> aZ
open Option renaming some -> ay
namespace Go.Proofs.YtmhhnklkcmpdkaaGreatDoor.gscriptReport
set_option maxRecDepth 100000
theorem byText : Rows.scriptReportRow.wfByText (OpenSpec.ofChange Rows.scriptReportSpec) = true := by kernel_rfl
theorem isMain : Tryz.pinned.checked.prog.mainIs = some ((true, "bcba8fb281755c48e9fad0cbe06bd2854efc728ad27a33e6d68bcb26a4f0924b").1, (true, "bcba8fb281755c48e9fad0cbe06bd2854efc728ad27a33e6d68bcb26a4f0924b").2.toList) := by kernel_rfl
theorem looking : true = Tryz.pinned.checked.prog.looks [] := by kernel_rfl
theorem noStand : ([23, 3].all fun u => !Tryz.pinned.checked.prog.wantsStandIn u) = true := by kernel_rfl
theorem going : false = Rows.scriptReportRow.goesBy Tryz.pinned.checked.prog := by kernel_rfl
theorem noHarness : (!(true, "bcba8fb281755c48e9fad0cbe06bd2854efc728ad27a33e6d68bcb26a4f0924b").1 && (true, "bcba8fb281755c48e9fad0cbe06bd2854efc728ad27a33e6d68bcb26a4f0924b").2.isEmpty && !true) = false := by decide
end Go.Proofs.YtmhhnklkcmpdkaaGreatDoor.gscriptReport
namespace Go.Proofs.YtmhhnklkcmpdkaaGreatDoor
theorem scriptReport_card : Rows.ScriptReportCardSaid :=
  Claim7.holds_tied_plain_at .later [] [.data, .data, .data, .data, .sentinel, .sentinel, .pinned] true (true, "bcba8fb281755c48e9fad0cbe06bd2854efc728ad27a33e6d68bcb26a4f0924b") true
    scriptReport_holds (fun _ h => by cases h) gscriptReport.byText (fun _ h => by cases h) scriptReport_row_tie rfl ⟨rfl, rfl⟩ gscriptReport.isMain gscriptReport.noHarness
    (fun f fn hf hfn => by
      obtain rfl : f = 6 := ay.inj (gscriptReport.named.symm.trans hf) |>.symm
      obtain rfl : fn = Tryz.f6 := (ay.inj (Tryz.func6.symm.trans hfn)).symm
      exact ⟨gscriptReport.looking, fun j t ht => by
        rw[Tryz.params6] at ht
        have hm : t ∈ [23, 3] := by simpa using Array.mem_of_getElem? ht
        exact (show Tryz.pinned.checked.prog.wantsStandIn t = false by simpa using aZ.1 gscriptReport.noStand t hm)⟩)
    gscriptReport.going
#print axioms scriptReport_card
end Go.Proofs.YtmhhnklkcmpdkaaGreatDoor
