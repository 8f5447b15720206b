/-
  The tied card of DocumentTrust. No condition.
-/
import Derived.Test.YtkggincjigbelaaGreatDoorGb
import Derived.Test.YtkggincjigbelaaGreatDoorCards
import Derived.Test.YtkggincjigbelaaGreatDoorTie
import Derived.SevenTiedAt
open List renaming all_eq_true -> aN
open Option renaming some -> al
namespace Go.Proofs.YtkggincjigbelaaGreatDoor
set_option maxRecDepth 100000
theorem documentTrust_card : Rows.DocumentTrustCardSaid :=
  Claim7.holds_tied_plain_at .later [] [.data] true (true, "e32454b59c1e45583bec823aed90d442696e736b885360966aa787ede213aee7") false
    documentTrust_holds (fun _ h => by cases h) (by kernel_rfl) (fun _ h => by cases h) documentTrust_row_tie rfl ⟨rfl, rfl⟩ (by kernel_rfl) rfl
    (fun f fn hf hfn => by
      obtain rfl : f = 4 := al.inj ((show Tryz.prog.funcNamed "sealwright/sealwrightlaw33.DocumentTrust" = some 4 by kernel_rfl).symm.trans hf) |>.symm
      obtain rfl : fn = Tryz.f4 := (al.inj (Tryz.func4.symm.trans hfn)).symm
      exact ⟨by kernel_rfl, fun j t ht => by
        rw[Tryz.params4] at ht
        have hm : t ∈ [40, 3] := by simpa using Array.mem_of_getElem? ht
        have hall : ([40, 3].all fun u => !Tryz.prog.wantsStandIn u) = true := by kernel_rfl
        exact (show Tryz.prog.wantsStandIn t = false by simpa using aN.1 hall t hm)⟩)
    (by kernel_rfl)
#print axioms documentTrust_card
end Go.Proofs.YtkggincjigbelaaGreatDoor
