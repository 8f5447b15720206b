/-
  The tied card of ManifestDescribe. No condition.
-/
import Derived.Test.YtkcjdeofknkndaaGreatDoorGaDF
import Derived.Test.YtkcjdeofknkndaaGreatDoorCards
import Derived.Test.YtkcjdeofknkndaaGreatDoorTie
import Derived.SevenTiedAt
open List renaming all_eq_true -> aT
open Option renaming some -> aq
namespace Go.Proofs.YtkcjdeofknkndaaGreatDoor
set_option maxRecDepth 100000
theorem manifestDescribe_card : Rows.ManifestDescribeCardSaid :=
  Claim7.holds_tied_plain_at .later [] [.data, .data, .data, .data, .data, .sentinel, .sentinel, .data, .pinned] true (true, "9c80983056878f63d794d1f63b9ff33a099baf7af943a0f779ebcd9c30ee84ff") true
    manifestDescribe_holds (fun _ h => by cases h) (by kernel_rfl) (fun _ h => by cases h) manifestDescribe_row_tie rfl ⟨rfl, rfl⟩ (by kernel_rfl) rfl
    (fun f fn hf hfn => by
      obtain rfl : f = 9 := aq.inj ((show Tryz.prog.funcNamed "sealwright/sealwrightlaw32.ManifestDescribe" = some 9 by kernel_rfl).symm.trans hf) |>.symm
      obtain rfl : fn = Tryz.f9 := (aq.inj (Tryz.func9.symm.trans hfn)).symm
      exact ⟨by kernel_rfl, fun j t ht => by
        rw[Tryz.params9] at ht
        have hm : t ∈ [52, 26, 9, 3] := by simpa using Array.mem_of_getElem? ht
        have hall : ([52, 26, 9, 3].all fun u => !Tryz.prog.wantsStandIn u) = true := by kernel_rfl
        exact (show Tryz.prog.wantsStandIn t = false by simpa using aT.1 hall t hm)⟩)
    (by kernel_rfl)
#print axioms manifestDescribe_card
end Go.Proofs.YtkcjdeofknkndaaGreatDoor
