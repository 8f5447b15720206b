/-
  RuleNumber holds: whatever the input, the law returns true and its arguments read as before. No condition.
-/
import Derived.Test.YtmekdaifojaoiaaDoorRows
import Derived.Test.YtmekdaifojaoiaaDoorV
import Derived.Test.YtmekdaifojaoiaaDoorEd
import Derived.Test.YtmekdaifojaoiaaDoorU
import Derived.ProofKit
import Derived.JoinedOf
import Derived.LaidMore
import Derived.LaidLaws
import Derived.LaidHandle
namespace Go.Proofs.YtmekdaifojaoiaaDoor.gruleNumber
open Go.Sy Go.ChangeShapes Go.WideShapes Go.RowKit
set_option linter.unusedVariables false
set_option maxRecDepth 100000

theorem own : ownKnob Tryd.prog.godebug = none := by kernel_rfl
theorem contract (H : Type) (enc : TypeId × Value → H) (W : World) (base : Nat) (args : Array Value) (ds gs : List (DataW H)) (before : List MemPlace)
    (hval : ∀ (j : Nat) t v, Tryd.f9.params[j]? = some t → args[j]? = some v → Value.okWide Tryd.prog W .any base t v)
    (hW : DataW.Whole enc Tryd.prog Tryd.f9.params.toList Rows.ruleNumberSpec.vars false W args.toList ds gs before) :
    Calls Tryd.prog 9 args W fun e W' => ∃ v, e = .returned v ∧ Rows.ruleNumberSpec.post enc Tryd.prog Tryd.f9 false true false false W args v W' := by
  have hW' := hW
  obtain ⟨p, q, hA0, hV, rfl, hfz, hnd⟩ := hW
  have hA : DataW.TrodAll enc Tryd.prog W 0 (fun _ => true) true Tryd.f9.params.toList args.toList ds p := hA0
  rw [Tryd.params9] at hA hval
  obtain ⟨rfl, rfl⟩ := trodVars_none hV
  obtain ⟨v0, vs0, d0, ds0, p0, q0, hargs, rfl, rfl, h0, r0⟩ := trodAll_cons hA
  obtain ⟨v1, vs1, d1, ds1, p1, q1, rfl, rfl, rfl, h1, r1⟩ := trodAll_cons r0
  obtain ⟨v2, vs2, d2, ds2, p2, q2, rfl, rfl, rfl, h2, r2⟩ := trodAll_cons r1
  obtain ⟨v3, vs3, d3, ds3, p3, q3, rfl, rfl, rfl, h3, r3⟩ := trodAll_cons r2
  obtain ⟨v4, vs4, d4, ds4, p4, q4, rfl, rfl, rfl, h4, r4⟩ := trodAll_cons r3
  obtain ⟨rfl, rfl, rfl⟩ := trodAll_nil r4
  obtain rfl : args = #[v0, v1, v2, v3, v4] := by cases args; simp_all
  obtain ⟨l0, hl0, k0⟩ := arg_str Tryd.underlying9 (hval 0 9 v0 rfl rfl) h0
  obtain ⟨n1, hn1, k1⟩ := arg_int Tryd.underlying3 (hval 1 3 v1 rfl rfl) h1
  obtain ⟨lo1, up1⟩ : -9223372036854775808 ≤ n1 ∧ n1 ≤ 9223372036854775807 := has_i64 hn1
  obtain ⟨n2, hn2, k2⟩ := arg_int Tryd.underlying3 (hval 2 3 v2 rfl rfl) h2
  obtain ⟨lo2, up2⟩ : -9223372036854775808 ≤ n2 ∧ n2 ≤ 9223372036854775807 := has_i64 hn2
  obtain ⟨n3, hn3, k3⟩ := arg_int Tryd.underlying3 (hval 3 3 v3 rfl rfl) h3
  obtain ⟨lo3, up3⟩ : -9223372036854775808 ≤ n3 ∧ n3 ≤ 9223372036854775807 := has_i64 hn3
  obtain ⟨n4, hn4, k4⟩ := arg_int Tryd.underlying3 (hval 4 3 v4 rfl rfl) h4
  obtain ⟨lo4, up4⟩ : -9223372036854775808 ≤ n4 ∧ n4 ≤ 9223372036854775807 := has_i64 hn4
  refine (law_calls (fn_call tab_ok (f9 l0 n1 n2 n3 n4 lo1 up1 lo2 up2 lo3 up3 lo4 up4) rfl) (repL_cons.2 ⟨k0, (repL_cons.2 ⟨k1, (repL_cons.2 ⟨k2, (repL_cons.2 ⟨k3, (repL_cons.2 ⟨k4, repL_nil⟩)⟩)⟩)⟩)⟩)).mono ?_
  rintro e W' ⟨rfl, hb⟩
  exact ⟨_, rfl, law_post (by kernel_rfl) (by kernel_rfl) (by kernel_rfl) Tryd.underlying4 rfl rfl rfl rfl hW' hb⟩

abbrev laid : List (String × DataW Unit) := Rows.ruleNumberRow.laid
def firstCells : Array Value := (Go.Pinned.utf8FirstZ.map fun (n : Nat) => Value.int .u8 (n : Int)).toArray
/-- The heap that the variables' door leaves, with the pinned table laid. -/
noncomputable def laidWorld (os : Os) : World :=
  { World.doorLaid Tryd.prog 72 os with heap := (World.doorLaid Tryd.prog 72 os).heap.modify ((Tryd.prog.globalNamed "unicode/utf8.first").getD 0) fun
      | .cells _ t frozen => .cells firstCells t frozen
      | o => o }
theorem met (os : Os) (args : Array Value) : laidMetH Tryd.prog laid ((laidWorld os).forCall (fun _ _ => 0) ⟨#[], args, []⟩).memory :=
  laidMetH_of_parts3 (fuel := 8) (laidMet_of_run' 8 (by kernel_rfl) (by kernel_rfl)) (by kernel_rfl) (by kernel_rfl)

theorem lifted (os : Os) (started : os.Started) (H : Type) (enc : TypeId × Value → H) :
    ReturnsInHanded {} Tryd.checked os 9 .any (fun w args => (Rows.ruleNumberSpec.pre enc Tryd.prog Tryd.f9 Rows.ruleNumberRow.domain false w args ∧ laidMetH Tryd.prog laid w) ∧ sizedMet enc Tryd.prog Tryd.f9 (OpenSpec.ofChange Rows.ruleNumberSpec) false w args) (Rows.ruleNumberSpec.post enc Tryd.prog Tryd.f9 false true false false) := by
  refine returnsInHanded_of_change_and (C := Tryd.checked) (X := fun w _ => laidMetH Tryd.prog laid w) (fun _ _ _ hh h => h.of_heap hh) own started (by kernel_rfl) Tryd.func9
    (ChangeSpec.witness_shaped (enc := enc) (C := Tryd.checked) (os := os) (X := fun w _ => laidMetH Tryd.prog laid w) false (laidWorld os) #[.string ⟨#[]⟩, .int .i64 0, .int .i64 0, .int .i64 0, .int .i64 0] 8 rfl (World.shaped_of_RefB (by kernel_rfl) (by kernel_rfl)) (by kernel_rfl) (by kernel_rfl) (by kernel_rfl) (met os _)) ?_
  intro W base args ds gs before hval hW _ _ _ _
  exact contract H enc W base args ds gs before hval hW
theorem over : Rows.ruleNumberRow.holds Tryd.pinned (OpenSpec.ofChange Rows.ruleNumberSpec) :=
  OpenClaim.holds_of_wide 9 Tryd.f9 rfl rfl rfl rfl rfl rfl rfl ⟨rfl, rfl, rfl, rfl, rfl⟩ rfl rfl rfl rfl rfl (by kernel_rfl) Tryd.func9 (by kernel_rfl)
    (of_decide_eq_true (by kernel_rfl)) (by unfold Func.isWrapper; first | (rw [if_pos (by decide +kernel)]; kernel_rfl) | (rw [if_neg (by decide +kernel)]; exact ⟨rfl, rfl⟩))
    (fun os started H enc _ => lifted os started H enc)
end Go.Proofs.YtmekdaifojaoiaaDoor.gruleNumber
namespace Go.Proofs.YtmekdaifojaoiaaDoor
theorem ruleNumber_holds : Rows.RuleNumberSaid := gruleNumber.over
#print axioms ruleNumber_holds
end Go.Proofs.YtmekdaifojaoiaaDoor
