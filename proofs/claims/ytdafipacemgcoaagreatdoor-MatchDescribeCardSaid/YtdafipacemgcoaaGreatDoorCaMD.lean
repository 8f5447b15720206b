/-
  The tied card of MatchDescribe. No condition.
-/
import Derived.Test.YtdafipacemgcoaaGreatDoorGaMD
import Derived.Test.YtdafipacemgcoaaGreatDoorCards
import Derived.Test.YtdafipacemgcoaaGreatDoorTie
import Derived.SevenTiedAt
open List renaming all_eq_true -> aT
open Option renaming some -> aw
namespace Go.Proofs.YtdafipacemgcoaaGreatDoor
set_option maxRecDepth 100000
theorem matchDescribe_card : Rows.MatchDescribeCardSaid :=
  Claim7.holds_tied_plain_at .later [] [.data, .data, .data, .data, .data, .sentinel, .sentinel, .data, .pinned] true (true, "f4e60d5a84d709b618e9cf575fd6ab07d8b60e57d675749dd5244b2db0ebed5a") true
    matchDescribe_holds (fun _ h => by cases h) (by kernel_rfl) (fun _ h => by cases h) matchDescribe_row_tie rfl ⟨rfl, rfl⟩ (by kernel_rfl) rfl
    (fun f fn hf hfn => by
      obtain rfl : f = 9 := aw.inj ((show Tryz.prog.funcNamed "sealwright/sealwrightlaw35.MatchDescribe" = some 9 by kernel_rfl).symm.trans hf) |>.symm
      obtain rfl : fn = Tryz.f9 := (aw.inj (Tryz.func9.symm.trans hfn)).symm
      exact ⟨by kernel_rfl, fun j t ht => by
        rw[Tryz.params9] at ht
        have hm : t ∈ [22, 3, 5] := by simpa using Array.mem_of_getElem? ht
        have hall : ([22, 3, 5].all fun u => !Tryz.prog.wantsStandIn u) = true := by kernel_rfl
        exact (show Tryz.prog.wantsStandIn t = false by simpa using aT.1 hall t hm)⟩)
    (by kernel_rfl)
#print axioms matchDescribe_card
end Go.Proofs.YtdafipacemgcoaaGreatDoor
