/-
  The tied card of DocumentSigners. No condition.
-/
import Derived.Test.YtkggincjigbelaaGreatDoorGeB
import Derived.Test.YtkggincjigbelaaGreatDoorCards
import Derived.Test.YtkggincjigbelaaGreatDoorTie
import Derived.SevenTiedAt
open List renaming all_eq_true -> aR
open Option renaming some -> an
namespace Go.Proofs.YtkggincjigbelaaGreatDoor
set_option maxRecDepth 100000
theorem documentSigners_card : Rows.DocumentSignersCardSaid :=
  Claim7.holds_tied_plain_at .later [] [.data] true (true, "e32454b59c1e45583bec823aed90d442696e736b885360966aa787ede213aee7") false
    documentSigners_holds (fun _ h => by cases h) (by kernel_rfl) (fun _ h => by cases h) documentSigners_row_tie rfl ⟨rfl, rfl⟩ (by kernel_rfl) rfl
    (fun f fn hf hfn => by
      obtain rfl : f = 6 := an.inj ((show Tryz.prog.funcNamed "sealwright/sealwrightlaw33.DocumentSigners" = some 6 by kernel_rfl).symm.trans hf) |>.symm
      obtain rfl : fn = Tryz.f6 := (an.inj (Tryz.func6.symm.trans hfn)).symm
      exact ⟨by kernel_rfl, fun j t ht => by
        rw[Tryz.params6] at ht
        have hm : t ∈ [47, 22, 3, 4] := by simpa using Array.mem_of_getElem? ht
        have hall : ([47, 22, 3, 4].all fun u => !Tryz.prog.wantsStandIn u) = true := by kernel_rfl
        exact (show Tryz.prog.wantsStandIn t = false by simpa using aR.1 hall t hm)⟩)
    (by kernel_rfl)
#print axioms documentSigners_card
end Go.Proofs.YtkggincjigbelaaGreatDoor
