/-
  The tied card of ManifestCodec. No condition.
-/
import Derived.Test.YtkcjdeofknkndaaGreatDoorGbZ2
import Derived.Test.YtkcjdeofknkndaaGreatDoorCards
import Derived.Test.YtkcjdeofknkndaaGreatDoorTie
import Derived.SevenTiedAt
open List renaming all_eq_true -> aW
open Option renaming some -> av
namespace Go.Proofs.YtkcjdeofknkndaaGreatDoor
set_option maxRecDepth 100000
theorem manifestCodec_card : Rows.ManifestCodecCardSaid :=
  Claim7.holds_tied_plain_at .later [] [.data, .data, .data, .data, .data, .sentinel, .sentinel, .data, .pinned] true (true, "9c80983056878f63d794d1f63b9ff33a099baf7af943a0f779ebcd9c30ee84ff") true
    manifestCodec_holds (fun _ h => by cases h) (by kernel_rfl) (fun _ h => by cases h) manifestCodec_row_tie rfl ⟨rfl, rfl⟩ (by kernel_rfl) rfl
    (fun f fn hf hfn => by
      obtain rfl : f = 4 := av.inj ((show Tryz.prog.funcNamed "sealwright/sealwrightlaw32.ManifestCodec" = some 4 by kernel_rfl).symm.trans hf) |>.symm
      obtain rfl : fn = Tryz.f4 := (av.inj (Tryz.func4.symm.trans hfn)).symm
      exact ⟨by kernel_rfl, fun j t ht => by
        rw[Tryz.params4] at ht
        have hm : t ∈ [25, 26] := by simpa using Array.mem_of_getElem? ht
        have hall : ([25, 26].all fun u => !Tryz.prog.wantsStandIn u) = true := by kernel_rfl
        exact (show Tryz.prog.wantsStandIn t = false by simpa using aW.1 hall t hm)⟩)
    (by kernel_rfl)
#print axioms manifestCodec_card
end Go.Proofs.YtkcjdeofknkndaaGreatDoor
