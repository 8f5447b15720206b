/- The tied card of CatalogMonotone. No condition. -/
import Derived.Test.YtbfnljmmepcbfaaGreatDoorGaPB
import Derived.Test.YtbfnljmmepcbfaaGreatDoorCards
import Derived.Test.YtbfnljmmepcbfaaGreatDoorTie
import Derived.SevenTiedAt
open List renaming all_eq_true -> bf
open Option renaming some -> ax
namespace Go.Proofs.YtbfnljmmepcbfaaGreatDoor
set_option maxRecDepth 100000
theorem catalogMonotone_card : Rows.CatalogMonotoneCardSaid :=
  Claim7.holds_tied_plain_at .later [] [.data] true (true, "cc5d9205239b086572da72c95cdbe0600b31a943c60a526cf27e71584c2e116d") false
    catalogMonotone_holds (fun _ h => by cases h) (by kernel_rfl) (fun _ h => by cases h) catalogMonotone_row_tie rfl ⟨rfl, rfl⟩ (by kernel_rfl) rfl
    (fun f fn hf hfn => by
      obtain rfl : f = 8 := ax.inj ((show Tryz.prog.funcNamed "sealwright/sealwrightlaw34.CatalogMonotone" = some 8 by kernel_rfl).symm.trans hf) |>.symm
      obtain rfl : fn = Tryz.f8 := (ax.inj (Tryz.func8.symm.trans hfn)).symm
      exact ⟨by kernel_rfl, fun j t ht => by
        rw[Tryz.params8] at ht
        have hm : t ∈ [36, 3] := by simpa using Array.mem_of_getElem? ht
        have hall : ([36, 3].all fun u => !Tryz.prog.wantsStandIn u) = true := by kernel_rfl
        exact (show Tryz.prog.wantsStandIn t = false by simpa using bf.1 hall t hm)⟩)
    (by kernel_rfl)
#print axioms catalogMonotone_card
end Go.Proofs.YtbfnljmmepcbfaaGreatDoor
