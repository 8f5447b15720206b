/-
  The tied card of GlobWider. No condition.
-/
import Derived.Test.YtmekdaifojaoiaaDoorGateWider
import Derived.Test.YtmekdaifojaoiaaDoorCards
import Derived.Test.YtmekdaifojaoiaaDoorTie
import Derived.SevenTiedAt
namespace Go.Proofs.YtmekdaifojaoiaaDoor
set_option maxRecDepth 100000
theorem globWider_card : Rows.GlobWiderCardSaid :=
  Claim7.holds_tied_plain_at .later [] [.data, .data, .data, .data, .sentinel, .sentinel, .pinned] true (true, "ddf1e42046a5e11f8d581097d719dc14e0199294e29a568797ffc4fc62366ceb") true
    globWider_holds (fun _ h => by cases h) (by kernel_rfl) (fun _ h => by cases h) globWider_row_tie rfl ⟨rfl, rfl⟩ (by kernel_rfl) rfl
    (fun f fn hf hfn => by
      obtain rfl : f = 7 := Option.some.inj ((show Tryd.prog.funcNamed "sealwright/sealwrightlaw31.GlobWider" = some 7 by kernel_rfl).symm.trans hf) |>.symm
      obtain rfl : fn = Tryd.f7 := (Option.some.inj (Tryd.func7.symm.trans hfn)).symm
      exact ⟨by kernel_rfl, fun j t ht => by
        rw [Tryd.params7] at ht
        have hm : t ∈ [24, 3] := by simpa using Array.mem_of_getElem? ht
        have hall : ([24, 3].all fun u => !Tryd.prog.wantsStandIn u) = true := by kernel_rfl
        exact (show Tryd.prog.wantsStandIn t = false by simpa using List.all_eq_true.1 hall t hm)⟩)
    (by kernel_rfl)
#print axioms globWider_card
end Go.Proofs.YtmekdaifojaoiaaDoor
