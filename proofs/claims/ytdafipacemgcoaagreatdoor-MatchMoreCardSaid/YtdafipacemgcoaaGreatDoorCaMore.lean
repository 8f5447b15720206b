/-
  The tied card of MatchMore. No condition.
-/
import Derived.Test.YtdafipacemgcoaaGreatDoorGaMore
import Derived.Test.YtdafipacemgcoaaGreatDoorCards
import Derived.Test.YtdafipacemgcoaaGreatDoorTie
import Derived.SevenTiedAt
open List renaming all_eq_true -> aY
open Option renaming some -> ax
namespace Go.Proofs.YtdafipacemgcoaaGreatDoor
set_option maxRecDepth 100000
theorem matchMore_card : Rows.MatchMoreCardSaid :=
  Claim7.holds_tied_plain_at .later [] [.data, .data, .data, .data, .data, .sentinel, .sentinel, .data, .pinned] true (true, "f4e60d5a84d709b618e9cf575fd6ab07d8b60e57d675749dd5244b2db0ebed5a") true
    matchMore_holds (fun _ h => by cases h) (by kernel_rfl) (fun _ h => by cases h) matchMore_row_tie rfl ⟨rfl, rfl⟩ (by kernel_rfl) rfl
    (fun f fn hf hfn => by
      obtain rfl : f = 7 := ax.inj ((show Tryz.prog.funcNamed "sealwright/sealwrightlaw35.MatchMore" = some 7 by kernel_rfl).symm.trans hf) |>.symm
      obtain rfl : fn = Tryz.f7 := (ax.inj (Tryz.func7.symm.trans hfn)).symm
      exact ⟨by kernel_rfl, fun j t ht => by
        rw[Tryz.params7] at ht
        have hm : t ∈ [22, 3, 4] := by simpa using Array.mem_of_getElem? ht
        have hall : ([22, 3, 4].all fun u => !Tryz.prog.wantsStandIn u) = true := by kernel_rfl
        exact (show Tryz.prog.wantsStandIn t = false by simpa using aY.1 hall t hm)⟩)
    (by kernel_rfl)
#print axioms matchMore_card
end Go.Proofs.YtdafipacemgcoaaGreatDoor
