/-
  The tied card of ManifestAllows. No condition.
-/
import Derived.Test.YtkcjdeofknkndaaGreatDoorGb
import Derived.Test.YtkcjdeofknkndaaGreatDoorCards
import Derived.Test.YtkcjdeofknkndaaGreatDoorTie
import Derived.SevenTiedAt
open List renaming all_eq_true -> aR
open Option renaming some -> aq
namespace Go.Proofs.YtkcjdeofknkndaaGreatDoor
set_option maxRecDepth 100000
theorem manifestAllows_card : Rows.ManifestAllowsCardSaid :=
  Claim7.holds_tied_plain_at .later [] [.data, .data, .data, .data, .data, .sentinel, .sentinel, .data, .pinned] true (true, "9c80983056878f63d794d1f63b9ff33a099baf7af943a0f779ebcd9c30ee84ff") true
    manifestAllows_holds (fun _ h => by cases h) (by kernel_rfl) (fun _ h => by cases h) manifestAllows_row_tie rfl ⟨rfl, rfl⟩ (by kernel_rfl) rfl
    (fun f fn hf hfn => by
      obtain rfl : f = 8 := aq.inj ((show Tryz.prog.funcNamed "sealwright/sealwrightlaw32.ManifestAllows" = some 8 by kernel_rfl).symm.trans hf) |>.symm
      obtain rfl : fn = Tryz.f8 := (aq.inj (Tryz.func8.symm.trans hfn)).symm
      exact ⟨by kernel_rfl, fun j t ht => by
        rw[Tryz.params8] at ht
        have hm : t ∈ [26, 3, 4] := by simpa using Array.mem_of_getElem? ht
        have hall : ([26, 3, 4].all fun u => !Tryz.prog.wantsStandIn u) = true := by kernel_rfl
        exact (show Tryz.prog.wantsStandIn t = false by simpa using aR.1 hall t hm)⟩)
    (by kernel_rfl)
#print axioms manifestAllows_card
end Go.Proofs.YtkcjdeofknkndaaGreatDoor
