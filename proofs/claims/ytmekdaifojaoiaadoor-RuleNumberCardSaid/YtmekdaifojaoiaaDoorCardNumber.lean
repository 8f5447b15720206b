/-
  The tied card of RuleNumber. No condition.
-/
import Derived.Test.YtmekdaifojaoiaaDoorGateNumber
import Derived.Test.YtmekdaifojaoiaaDoorCards
import Derived.Test.YtmekdaifojaoiaaDoorTie
import Derived.SevenTiedAt
namespace Go.Proofs.YtmekdaifojaoiaaDoor
set_option maxRecDepth 100000
theorem ruleNumber_card : Rows.RuleNumberCardSaid :=
  Claim7.holds_tied_plain_at .later [] [.data, .data, .data, .data, .sentinel, .sentinel, .pinned] true (true, "ddf1e42046a5e11f8d581097d719dc14e0199294e29a568797ffc4fc62366ceb") true
    ruleNumber_holds (fun _ h => by cases h) (by kernel_rfl) (fun _ h => by cases h) ruleNumber_row_tie rfl ⟨rfl, rfl⟩ (by kernel_rfl) rfl
    (fun f fn hf hfn => by
      obtain rfl : f = 9 := Option.some.inj ((show Tryd.prog.funcNamed "sealwright/sealwrightlaw31.RuleNumber" = some 9 by kernel_rfl).symm.trans hf) |>.symm
      obtain rfl : fn = Tryd.f9 := (Option.some.inj (Tryd.func9.symm.trans hfn)).symm
      exact ⟨by kernel_rfl, fun j t ht => by
        rw [Tryd.params9] at ht
        have hm : t ∈ [9, 3] := by simpa using Array.mem_of_getElem? ht
        have hall : ([9, 3].all fun u => !Tryd.prog.wantsStandIn u) = true := by kernel_rfl
        exact (show Tryd.prog.wantsStandIn t = false by simpa using List.all_eq_true.1 hall t hm)⟩)
    (by kernel_rfl)
#print axioms ruleNumber_card
end Go.Proofs.YtmekdaifojaoiaaDoor
