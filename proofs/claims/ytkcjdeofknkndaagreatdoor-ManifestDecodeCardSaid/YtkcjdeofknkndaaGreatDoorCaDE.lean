/-
  The tied card of ManifestDecode. No condition.
-/
import Derived.Test.YtkcjdeofknkndaaGreatDoorGaDE
import Derived.Test.YtkcjdeofknkndaaGreatDoorCards
import Derived.Test.YtkcjdeofknkndaaGreatDoorTie
import Derived.SevenTiedAt
open List renaming all_eq_true -> aT
open Option renaming some -> aq
namespace Go.Proofs.YtkcjdeofknkndaaGreatDoor
set_option maxRecDepth 100000
theorem manifestDecode_card : Rows.ManifestDecodeCardSaid :=
  Claim7.holds_tied_plain_at .later [] [.data, .data, .data, .data, .data, .sentinel, .sentinel, .data, .pinned] true (true, "9c80983056878f63d794d1f63b9ff33a099baf7af943a0f779ebcd9c30ee84ff") true
    manifestDecode_holds (fun _ h => by cases h) (by kernel_rfl) (fun _ h => by cases h) manifestDecode_row_tie rfl ⟨rfl, rfl⟩ (by kernel_rfl) rfl
    (fun f fn hf hfn => by
      obtain rfl : f = 5 := aq.inj ((show Tryz.prog.funcNamed "sealwright/sealwrightlaw32.ManifestDecode" = some 5 by kernel_rfl).symm.trans hf) |>.symm
      obtain rfl : fn = Tryz.f5 := (aq.inj (Tryz.func5.symm.trans hfn)).symm
      exact ⟨by kernel_rfl, fun j t ht => by
        rw[Tryz.params5] at ht
        have hm : t ∈ [26, 42, 26, 3] := by simpa using Array.mem_of_getElem? ht
        have hall : ([26, 42, 26, 3].all fun u => !Tryz.prog.wantsStandIn u) = true := by kernel_rfl
        exact (show Tryz.prog.wantsStandIn t = false by simpa using aT.1 hall t hm)⟩)
    (by kernel_rfl)
#print axioms manifestDecode_card
end Go.Proofs.YtkcjdeofknkndaaGreatDoor
