/-
  The tied card of DocumentDescribe. No condition.
-/
import Derived.Test.YtkggincjigbelaaGreatDoorGaD
import Derived.Test.YtkggincjigbelaaGreatDoorCards
import Derived.Test.YtkggincjigbelaaGreatDoorTie
import Derived.SevenTiedAt
open List renaming all_eq_true -> aU
open Option renaming some -> aq
namespace Go.Proofs.YtkggincjigbelaaGreatDoor
set_option maxRecDepth 100000
theorem documentDescribe_card : Rows.DocumentDescribeCardSaid :=
  Claim7.holds_tied_plain_at .later [] [.data] true (true, "e32454b59c1e45583bec823aed90d442696e736b885360966aa787ede213aee7") false
    documentDescribe_holds (fun _ h => by cases h) (by kernel_rfl) (fun _ h => by cases h) documentDescribe_row_tie rfl ⟨rfl, rfl⟩ (by kernel_rfl) rfl
    (fun f fn hf hfn => by
      obtain rfl : f = 10 := aq.inj ((show Tryz.prog.funcNamed "sealwright/sealwrightlaw33.DocumentDescribe" = some 10 by kernel_rfl).symm.trans hf) |>.symm
      obtain rfl : fn = Tryz.f10 := (aq.inj (Tryz.func10.symm.trans hfn)).symm
      exact ⟨by kernel_rfl, fun j t ht => by
        rw[Tryz.params10] at ht
        have hm : t ∈ [22, 3] := by simpa using Array.mem_of_getElem? ht
        have hall : ([22, 3].all fun u => !Tryz.prog.wantsStandIn u) = true := by kernel_rfl
        exact (show Tryz.prog.wantsStandIn t = false by simpa using aU.1 hall t hm)⟩)
    (by kernel_rfl)
#print axioms documentDescribe_card
end Go.Proofs.YtkggincjigbelaaGreatDoor
