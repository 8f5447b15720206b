/-
  The tied card of GlobJoin. No condition.
-/
import Derived.Test.YtmekdaifojaoiaaDoorGateJoin
import Derived.Test.YtmekdaifojaoiaaDoorCards
import Derived.Test.YtmekdaifojaoiaaDoorTie
import Derived.SevenTiedAt
namespace Go.Proofs.YtmekdaifojaoiaaDoor
set_option maxRecDepth 100000
theorem globJoin_card : Rows.GlobJoinCardSaid :=
  Claim7.holds_tied_plain_at .later [] [.data, .data, .data, .data, .sentinel, .sentinel, .pinned] true (true, "ddf1e42046a5e11f8d581097d719dc14e0199294e29a568797ffc4fc62366ceb") true
    globJoin_holds (fun _ h => by cases h) (by kernel_rfl) (fun _ h => by cases h) globJoin_row_tie rfl ⟨rfl, rfl⟩ (by kernel_rfl) rfl
    (fun f fn hf hfn => by
      obtain rfl : f = 6 := Option.some.inj ((show Tryd.prog.funcNamed "sealwright/sealwrightlaw31.GlobJoin" = some 6 by kernel_rfl).symm.trans hf) |>.symm
      obtain rfl : fn = Tryd.f6 := (Option.some.inj (Tryd.func6.symm.trans hfn)).symm
      exact ⟨by kernel_rfl, fun j t ht => by
        rw [Tryd.params6] at ht
        have hm : t ∈ [24, 3] := by simpa using Array.mem_of_getElem? ht
        have hall : ([24, 3].all fun u => !Tryd.prog.wantsStandIn u) = true := by kernel_rfl
        exact (show Tryd.prog.wantsStandIn t = false by simpa using List.all_eq_true.1 hall t hm)⟩)
    (by kernel_rfl)
#print axioms globJoin_card
end Go.Proofs.YtmekdaifojaoiaaDoor
