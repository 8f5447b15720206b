/-
  Arguments: whole numbers of 64 bits; a struct of a whole number, a string and two whole numbers.
-/
import Derived.Test.YtmekdaifojaoiaaDoorEd
import Derived.ChangeArms
set_option linter.unusedSimpArgs false
set_option linter.unusedVariables false
namespace Go.Sy
open Go.RowKit Go.ChangeShapes Go.WideShapes

theorem has_i64 {n : Int} (h : IntKind.i64.has n) : -9223372036854775808 ≤ n ∧ n ≤ 9223372036854775807 := h
section
variable {H : Type} {enc : TypeId × Value → H} {P : Program} {w : World} {base : Nat} {sp : Nat → Bool} {hd : Bool} {r : Reach} {b0 : Nat} {t e : TypeId} {v : Value} {d : DataW H} {ps : List MemPlace}
theorem one_list {α : Type} : ∀ {l : List α} {i : Nat} {x : α}, (l.drop i).take 1 = [x] → l[i]? = some x := by
  intro l i x h
  have := congrArg (fun m : List α => m[0]?) h
  simpa [List.getElem?_take, List.getElem?_drop] using this
theorem arg_isii {f0 f1 f2 f3 : Field} {k0 k2 k3 : IntKind} (ht : P.underlying t = some (.struct #[f0, f1, f2, f3])) (hc : P.cellsOf t = 4) (o0 : f0.offset = 0) (o1 : f1.offset = 1) (o2 : f2.offset = 2) (o3 : f3.offset = 3)
    (c0 : P.cellsOf f0.type = 1) (c1 : P.cellsOf f1.type = 1) (c2 : P.cellsOf f2.type = 1) (c3 : P.cellsOf f3.type = 1)
    (t0 : P.underlying f0.type = some (.int k0)) (t1 : P.underlying f1.type = some .string) (t2 : P.underlying f2.type = some (.int k2)) (t3 : P.underlying f3.type = some (.int k3))
    (hval : Value.okWide P w r b0 t v) (h : DataW.Trod enc P w base sp hd t v d ps) :
    ∃ (a : Int) (l : List UInt8) (b c : Int), k0.has a ∧ l.length ≤ maxLen ∧ k2.has b ∧ k3.has c ∧ Rep (sitW w) (.agg [.int k0 a, .str l, .int k2 b, .int k3 c]) v := by
  obtain ⟨cs, rfl, hcs⟩ := okWide_struct ht hval
  rw [hc] at hcs
  obtain ⟨fuel, hf⟩ := h
  obtain ⟨xs, n, _, _, hl, hlen, hf⟩ := DataW.trod_struct ht hf
  simp only [Value.cells] at hl hf
  have hx : xs.length = 4 := hlen
  match xs, hx with
  | [y0, y1, y2, y3], _ =>
    have g0 := hf 0 f0 rfl
    have g1 := hf 1 f1 rfl
    have g2 := hf 2 f2 rfl
    have g3 := hf 3 f3 rfl
    rw [o0, c0] at g0
    rw [o1, c1] at g1
    rw [o2, c2] at g2
    rw [o3, c3] at g3
    obtain ⟨a, e0, _, w0⟩ := DataW.trod_int t0 g0
    obtain ⟨⟨⟨l⟩⟩, e1, _, w1⟩ := DataW.trod_string t1 g1
    obtain ⟨b, e2, _, w2⟩ := DataW.trod_int t2 g2
    obtain ⟨c, e3, _, w3⟩ := DataW.trod_int t3 g3
    have hv : cs.toList = [.int k0 a, .string ⟨⟨l⟩⟩, .int k2 b, .int k3 c] := by
      apply List.ext_getElem?
      intro i
      have hsz : cs.toList.length = 4 := by simpa using hcs
      match i with
      | 0 => rw [one_list e0]; rfl
      | 1 => rw [one_list e1]; rfl
      | 2 => rw [one_list e2]; rfl
      | 3 => rw [one_list e3]; rfl
      | i + 4 => rw [List.getElem?_eq_none (by omega)]; rfl
    simp only [Lit.wf, Bool.and_eq_true, decide_eq_true_eq] at w0 w2 w3
    refine ⟨a, l, b, c, w0, w1, w2, w3, ?_⟩
    have hcv : cs = ⟨[.int k0 a, .string ⟨⟨l⟩⟩, .int k2 b, .int k3 c]⟩ := by rw [← hv]
    rw [hcv]
    refine .agg _ _ rfl fun i hi => ?_
    match i, hi with
    | 0, _ => exact .dat _ _ (.int k0 a) trivial
    | 1, _ => exact .dat _ _ (.str l) trivial
    | 2, _ => exact .dat _ _ (.int k2 b) trivial
    | 3, _ => exact .dat _ _ (.int k3 c) trivial
    | i + 4, hi => simp at hi; omega
end
end Go.Sy
