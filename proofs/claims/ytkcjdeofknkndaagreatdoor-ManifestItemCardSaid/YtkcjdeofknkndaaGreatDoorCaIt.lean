/-
  The tied card of ManifestItem. No condition.
-/
import Derived.Test.YtkcjdeofknkndaaGreatDoorGaIt
import Derived.Test.YtkcjdeofknkndaaGreatDoorCards
import Derived.Test.YtkcjdeofknkndaaGreatDoorTie
import Derived.SevenTiedAt
open List renaming all_eq_true -> aY
open Option renaming some -> aw
namespace Go.Proofs.YtkcjdeofknkndaaGreatDoor
set_option maxRecDepth 100000
theorem manifestItem_card : Rows.ManifestItemCardSaid :=
  Claim7.holds_tied_plain_at .later [] [.data, .data, .data, .data, .data, .sentinel, .sentinel, .data, .pinned] true (true, "9c80983056878f63d794d1f63b9ff33a099baf7af943a0f779ebcd9c30ee84ff") true
    manifestItem_holds (fun _ h => by cases h) (by kernel_rfl) (fun _ h => by cases h) manifestItem_row_tie rfl ⟨rfl, rfl⟩ (by kernel_rfl) rfl
    (fun f fn hf hfn => by
      obtain rfl : f = 7 := aw.inj ((show Tryz.prog.funcNamed "sealwright/sealwrightlaw32.ManifestItem" = some 7 by kernel_rfl).symm.trans hf) |>.symm
      obtain rfl : fn = Tryz.f7 := (aw.inj (Tryz.func7.symm.trans hfn)).symm
      exact ⟨by kernel_rfl, fun j t ht => by
        rw[Tryz.params7] at ht
        have hm : t ∈ [25, 26, 3] := by simpa using Array.mem_of_getElem? ht
        have hall : ([25, 26, 3].all fun u => !Tryz.prog.wantsStandIn u) = true := by kernel_rfl
        exact (show Tryz.prog.wantsStandIn t = false by simpa using aY.1 hall t hm)⟩)
    (by kernel_rfl)
#print axioms manifestItem_card
end Go.Proofs.YtkcjdeofknkndaaGreatDoor
