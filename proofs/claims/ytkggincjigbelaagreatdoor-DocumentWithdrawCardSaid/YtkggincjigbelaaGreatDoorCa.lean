/-
  The tied card of DocumentWithdraw. No condition.
-/
import Derived.Test.YtkggincjigbelaaGreatDoorGa
import Derived.Test.YtkggincjigbelaaGreatDoorCards
import Derived.Test.YtkggincjigbelaaGreatDoorTie
import Derived.SevenTiedAt
open List renaming all_eq_true -> aN
open Option renaming some -> al
namespace Go.Proofs.YtkggincjigbelaaGreatDoor
set_option maxRecDepth 100000
theorem documentWithdraw_card : Rows.DocumentWithdrawCardSaid :=
  Claim7.holds_tied_plain_at .later [] [.data] true (true, "e32454b59c1e45583bec823aed90d442696e736b885360966aa787ede213aee7") false
    documentWithdraw_holds (fun _ h => by cases h) (by kernel_rfl) (fun _ h => by cases h) documentWithdraw_row_tie rfl ⟨rfl, rfl⟩ (by kernel_rfl) rfl
    (fun f fn hf hfn => by
      obtain rfl : f = 3 := al.inj ((show Tryz.prog.funcNamed "sealwright/sealwrightlaw33.DocumentWithdraw" = some 3 by kernel_rfl).symm.trans hf) |>.symm
      obtain rfl : fn = Tryz.f3 := (al.inj (Tryz.func3.symm.trans hfn)).symm
      exact ⟨by kernel_rfl, fun j t ht => by
        rw[Tryz.params3] at ht
        have hm : t ∈ [24, 22, 3, 5, 3] := by simpa using Array.mem_of_getElem? ht
        have hall : ([24, 22, 3, 5, 3].all fun u => !Tryz.prog.wantsStandIn u) = true := by kernel_rfl
        exact (show Tryz.prog.wantsStandIn t = false by simpa using aN.1 hall t hm)⟩)
    (by kernel_rfl)
#print axioms documentWithdraw_card
end Go.Proofs.YtkggincjigbelaaGreatDoor
