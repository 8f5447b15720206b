/-
  The tied card of CatalogFull. No condition.
-/
import Derived.Test.YtbfnljmmepcbfaaGreatDoorGbPA
import Derived.Test.YtbfnljmmepcbfaaGreatDoorCards
import Derived.Test.YtbfnljmmepcbfaaGreatDoorTie
import Derived.SevenTiedAt
open List renaming all_eq_true -> aV
open Option renaming some -> aq
namespace Go.Proofs.YtbfnljmmepcbfaaGreatDoor
set_option maxRecDepth 100000
theorem catalogFull_card : Rows.CatalogFullCardSaid :=
  Claim7.holds_tied_plain_at .later [] [.data] true (true, "cc5d9205239b086572da72c95cdbe0600b31a943c60a526cf27e71584c2e116d") false
    catalogFull_holds (fun _ h => by cases h) (by kernel_rfl) (fun _ h => by cases h) catalogFull_row_tie rfl ⟨rfl, rfl⟩ (by kernel_rfl) rfl
    (fun f fn hf hfn => by
      obtain rfl : f = 5 := aq.inj ((show Tryz.prog.funcNamed "sealwright/sealwrightlaw34.CatalogFull" = some 5 by kernel_rfl).symm.trans hf) |>.symm
      obtain rfl : fn = Tryz.f5 := (aq.inj (Tryz.func5.symm.trans hfn)).symm
      exact ⟨by kernel_rfl, fun j t ht => by
        rw[Tryz.params5] at ht
        have hm : t ∈ [3] := by simpa using Array.mem_of_getElem? ht
        have hall : ([3].all fun u => !Tryz.prog.wantsStandIn u) = true := by kernel_rfl
        exact (show Tryz.prog.wantsStandIn t = false by simpa using aV.1 hall t hm)⟩)
    (by kernel_rfl)
#print axioms catalogFull_card
end Go.Proofs.YtbfnljmmepcbfaaGreatDoor
