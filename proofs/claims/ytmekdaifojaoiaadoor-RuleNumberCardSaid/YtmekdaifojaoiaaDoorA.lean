/-
  Drawing: bytes into small numbers, patterns and lines.
-/
import Derived.Test.YtmekdaifojaoiaaDoorCode
set_option maxRecDepth 100000
set_option linter.unusedSimpArgs false
set_option linter.unusedVariables false
namespace Go.Proofs.YtmekdaifojaoiaaDoor
open Go.Sy

theorem w64 {n : Int} (h1 : -9223372036854775808 ≤ n) (h2 : n ≤ 9223372036854775807) : IntKind.i64.wrap n = n := by
  rw [IntKind.wrap_i64]; omega
theorem wsucc (i : Nat) (h : i < 9223372036854775807) : IntKind.i64.wrap ((i : Int) + 1) = ((i + 1 : Nat) : Int) := by rw [w64 (by omega) (by omega)]; omega
theorem drop_cons {α : Type} [Inhabited α] (l : List α) (i : Nat) (h : i < l.length) : l.drop i = l.getD i default :: l.drop (i + 1) := by
  rw [List.drop_eq_getElem_cons h, List.getD_eq_getElem?_getD, List.getElem?_eq_getElem h]; rfl
theorem drop_cons0 (l : List UInt8) (i : Nat) (h : i < l.length) : l.drop i = l.getD i 0 :: l.drop (i + 1) := drop_cons l i h
theorem l31 (a b : List UInt8) (hl : a.length ≤ 140737488355328) (hab : a.length = b.length) : ∀ (n i : Nat), a.length - i = n → i ≤ a.length →
    run T (.loop r31_8) ⟨[(0, .byt a .no), (1, .byt b .no), (5, .int .i64 i)], [], []⟩ = if a.drop i = b.drop i then some (.x 0, ⟨[], [], []⟩) else some (.r, ⟨[(4, .bool false)], [], []⟩) := by
  intro n
  induction n with
  | zero =>
    intro i h0 h1
    have hi : i = a.length := by omega
    subst hi
    rw [run_loop]
    have e : List.drop a.length b = [] := by rw [hab, List.drop_length]
    simp only [r31_0, r31_1, r31_2, r31_3, r31_4, r31_5, r31_6, r31_7, r31_9, F31, q31_8, q31, go_sem, UInt8.reduceLT, UInt8.reduceLE, Int.reduceToNat, Int.reduceLE, Int.reduceLT, Int.reduceEq, Int.reduceNe, Int.reduceNeg, Int.reduceAdd, Int.reduceSub, Int.reduceMul, Nat.reducePow, Nat.reduceDiv, Nat.reduceMod, Nat.reduceAdd, Nat.reduceSub, Nat.reduceMul, Nat.reduceLT, Nat.reduceLeDiff, Nat.reduceEqDiff, Nat.reduceBEq, reduceCtorEq, reduceIte, List.drop_length, e]
  | succ n ih =>
    intro i h0 h1
    have hi : i < a.length := by omega
    have hi2 : i < b.length := by omega
    rw [run_loop, drop_cons0 a i hi, drop_cons0 b i hi2]
    have e3 : IntKind.i64.wrap ((i : Int) + 1) = ((i + 1 : Nat) : Int) := by rw [w64 (by omega) (by omega)]; omega
    simp only [r31_0, r31_1, r31_2, r31_3, r31_4, r31_5, r31_6, r31_7, r31_9, F31, q31_8, q31, go_sem, UInt8.reduceLT, UInt8.reduceLE, Int.reduceToNat, Int.reduceLE, Int.reduceLT, Int.reduceEq, Int.reduceNe, Int.reduceNeg, Int.reduceAdd, Int.reduceSub, Int.reduceMul, Nat.reducePow, Nat.reduceDiv, Nat.reduceMod, Nat.reduceAdd, Nat.reduceSub, Nat.reduceMul, Nat.reduceLT, Nat.reduceLeDiff, Nat.reduceEqDiff, Nat.reduceBEq, reduceCtorEq, reduceIte, hi, hi2, e3, ih (i + 1) (by omega) (by omega), List.cons.injEq]
    by_cases hc : a.getD i 0 = b.getD i 0 <;> simp only [hc, go_sem, UInt8.reduceLT, UInt8.reduceLE, Int.reduceToNat, Int.reduceLE, Int.reduceLT, Int.reduceEq, Int.reduceNe, Int.reduceNeg, Int.reduceAdd, Int.reduceSub, Int.reduceMul, Nat.reducePow, Nat.reduceDiv, Nat.reduceMod, Nat.reduceAdd, Nat.reduceSub, Nat.reduceMul, Nat.reduceLT, Nat.reduceLeDiff, Nat.reduceEqDiff, Nat.reduceBEq, reduceCtorEq, reduceIte]
theorem f31 (a b : List UInt8) (hl : a.length ≤ 140737488355328) : call T 31 [.byt a .no, .byt b .no] [] 0 = some ⟨.bool (decide (a = b)), [], []⟩ := by
  rw [call_code T_31]
  by_cases hab : a.length = b.length
  · have h := l31 a b hl hab _ 0 rfl (by omega)
    simp only [Int.natCast_zero, List.drop_zero] at h
    simp only [r31_0, r31_1, r31_2, r31_3, r31_4, r31_5, r31_6, r31_7, r31_9, F31, q31_8, q31, go_sem, UInt8.reduceLT, UInt8.reduceLE, Int.reduceToNat, Int.reduceLE, Int.reduceLT, Int.reduceEq, Int.reduceNe, Int.reduceNeg, Int.reduceAdd, Int.reduceSub, Int.reduceMul, Nat.reducePow, Nat.reduceDiv, Nat.reduceMod, Nat.reduceAdd, Nat.reduceSub, Nat.reduceMul, Nat.reduceLT, Nat.reduceLeDiff, Nat.reduceEqDiff, Nat.reduceBEq, reduceCtorEq, reduceIte, hab, h]
    by_cases hc : a = b <;> simp only [hc, r31_0, r31_1, r31_2, r31_3, r31_4, r31_5, r31_6, r31_7, r31_9, F31, q31_8, q31, go_sem, UInt8.reduceLT, UInt8.reduceLE, Int.reduceToNat, Int.reduceLE, Int.reduceLT, Int.reduceEq, Int.reduceNe, Int.reduceNeg, Int.reduceAdd, Int.reduceSub, Int.reduceMul, Nat.reducePow, Nat.reduceDiv, Nat.reduceMod, Nat.reduceAdd, Nat.reduceSub, Nat.reduceMul, Nat.reduceLT, Nat.reduceLeDiff, Nat.reduceEqDiff, Nat.reduceBEq, reduceCtorEq, reduceIte]
  · have hc : a ≠ b := fun e => hab (by rw [e])
    simp only [r31_0, r31_1, r31_2, r31_3, r31_4, r31_5, r31_6, r31_7, r31_9, F31, q31_8, q31, go_sem, UInt8.reduceLT, UInt8.reduceLE, Int.reduceToNat, Int.reduceLE, Int.reduceLT, Int.reduceEq, Int.reduceNe, Int.reduceNeg, Int.reduceAdd, Int.reduceSub, Int.reduceMul, Nat.reducePow, Nat.reduceDiv, Nat.reduceMod, Nat.reduceAdd, Nat.reduceSub, Nat.reduceMul, Nat.reduceLT, Nat.reduceLeDiff, Nat.reduceEqDiff, Nat.reduceBEq, reduceCtorEq, reduceIte, hab, hc]
def modI (n m : Int) : Int := if m < 1 then 0 else if n.tmod m < 0 then n.tmod m + m else n.tmod m
theorem f16 (a b : Int) (ha : -9223372036854775808 ≤ a) (ha2 : a ≤ 9223372036854775807) (hb : b ≤ 9223372036854775807) : call T 16 [.int .i64 a, .int .i64 b] [] 0 = some ⟨.int .i64 (modI a b), [], []⟩ := by
  rw [call_code T_16]
  by_cases h : b < 1
  · simp only [r16_0, r16_1, r16_2, r16_3, r16_4, r16_5, r16_6, F16, q16, go_sem, UInt8.reduceLT, UInt8.reduceLE, Int.reduceToNat, Int.reduceLE, Int.reduceLT, Int.reduceEq, Int.reduceNe, Int.reduceNeg, Int.reduceAdd, Int.reduceSub, Int.reduceMul, Nat.reducePow, Nat.reduceDiv, Nat.reduceMod, Nat.reduceAdd, Nat.reduceSub, Nat.reduceMul, Nat.reduceLT, Nat.reduceLeDiff, Nat.reduceEqDiff, Nat.reduceBEq, reduceCtorEq, reduceIte, h, modI]
  · have h0 : ¬ b = 0 := by omega
    simp only [r16_0, r16_1, r16_2, r16_3, r16_4, r16_5, r16_6, F16, q16, go_sem, UInt8.reduceLT, UInt8.reduceLE, Int.reduceToNat, Int.reduceLE, Int.reduceLT, Int.reduceEq, Int.reduceNe, Int.reduceNeg, Int.reduceAdd, Int.reduceSub, Int.reduceMul, Nat.reducePow, Nat.reduceDiv, Nat.reduceMod, Nat.reduceAdd, Nat.reduceSub, Nat.reduceMul, Nat.reduceLT, Nat.reduceLeDiff, Nat.reduceEqDiff, Nat.reduceBEq, reduceCtorEq, reduceIte, h, h0, modI]
    by_cases h2 : a.tmod b < 0
    · have h3 : -b < a.tmod b := by
        have := Int.lt_tmod_of_pos a (b := b) (by omega); omega
      have h4 : IntKind.i64.wrap (a.tmod b + b) = a.tmod b + b := w64 (by omega) (by omega)
      simp only [h2, r16_0, r16_1, r16_2, r16_3, r16_4, r16_5, r16_6, F16, q16, go_sem, UInt8.reduceLT, UInt8.reduceLE, Int.reduceToNat, Int.reduceLE, Int.reduceLT, Int.reduceEq, Int.reduceNe, Int.reduceNeg, Int.reduceAdd, Int.reduceSub, Int.reduceMul, Nat.reducePow, Nat.reduceDiv, Nat.reduceMod, Nat.reduceAdd, Nat.reduceSub, Nat.reduceMul, Nat.reduceLT, Nat.reduceLeDiff, Nat.reduceEqDiff, Nat.reduceBEq, reduceCtorEq, reduceIte, h4]
    · simp only [h2, r16_0, r16_1, r16_2, r16_3, r16_4, r16_5, r16_6, F16, q16, go_sem, UInt8.reduceLT, UInt8.reduceLE, Int.reduceToNat, Int.reduceLE, Int.reduceLT, Int.reduceEq, Int.reduceNe, Int.reduceNeg, Int.reduceAdd, Int.reduceSub, Int.reduceMul, Nat.reducePow, Nat.reduceDiv, Nat.reduceMod, Nat.reduceAdd, Nat.reduceSub, Nat.reduceMul, Nat.reduceLT, Nat.reduceLeDiff, Nat.reduceEqDiff, Nat.reduceBEq, reduceCtorEq, reduceIte]
def codesO (B : List UInt8) (at' : Nat) : SObj := .rc [.byt B .no, .int .i64 at']
theorem f12 (a : List UInt8) (n : Nat) : call T 12 [.byt a .no, .int .i64 n] [] 0 = some ⟨.ptr 100 0, [(100, codesO (a.take n) 0)], []⟩ := by
  rw [call_code T_12]
  by_cases h : n < a.length
  · have h2 : n ≤ a.length := by omega
    simp only [r12_0, r12_1, r12_2, r12_3, F12, q12, go_sem, UInt8.reduceLT, UInt8.reduceLE, Int.reduceToNat, Int.reduceLE, Int.reduceLT, Int.reduceEq, Int.reduceNe, Int.reduceNeg, Int.reduceAdd, Int.reduceSub, Int.reduceMul, Nat.reducePow, Nat.reduceDiv, Nat.reduceMod, Nat.reduceAdd, Nat.reduceSub, Nat.reduceMul, Nat.reduceLT, Nat.reduceLeDiff, Nat.reduceEqDiff, Nat.reduceBEq, reduceCtorEq, reduceIte, h, h2, codesO]
    rfl
  · simp only [r12_0, r12_1, r12_2, r12_3, F12, q12, go_sem, UInt8.reduceLT, UInt8.reduceLE, Int.reduceToNat, Int.reduceLE, Int.reduceLT, Int.reduceEq, Int.reduceNe, Int.reduceNeg, Int.reduceAdd, Int.reduceSub, Int.reduceMul, Nat.reducePow, Nat.reduceDiv, Nat.reduceMod, Nat.reduceAdd, Nat.reduceSub, Nat.reduceMul, Nat.reduceLT, Nat.reduceLeDiff, Nat.reduceEqDiff, Nat.reduceBEq, reduceCtorEq, reduceIte, h, codesO, List.take_of_length_le (Nat.le_of_not_lt h)]
    rfl
theorem f27 (a : List UInt8) (b : Nat) : call T 27 [.ptr 0 0] [codesO a b] 0 = some ⟨.bool (decide (b < a.length)), [(0, codesO a b)], []⟩ := by
  rw [call_code T_27]
  simp only [r27_0, r27_1, F27, q27, go_sem, UInt8.reduceLT, UInt8.reduceLE, Int.reduceToNat, Int.reduceLE, Int.reduceLT, Int.reduceEq, Int.reduceNe, Int.reduceNeg, Int.reduceAdd, Int.reduceSub, Int.reduceMul, Nat.reducePow, Nat.reduceDiv, Nat.reduceMod, Nat.reduceAdd, Nat.reduceSub, Nat.reduceMul, Nat.reduceLT, Nat.reduceLeDiff, Nat.reduceEqDiff, Nat.reduceBEq, reduceCtorEq, reduceIte, codesO]
def nextV (a : List UInt8) (b n : Nat) : Nat := if b < a.length then (a.getD b 0).toNat % n else 0
def nextA (a : List UInt8) (b : Nat) : Nat := if b < a.length then b + 1 else b
theorem f22 (a : List UInt8) (b n : Nat) (hn : 0 < n) (hl : a.length ≤ 1000000000000) : call T 22 [.ptr 0 0, .int .i64 n] [codesO a b] 0 = some ⟨.int .i64 (nextV a b n), [(0, codesO a (nextA a b))], []⟩ := by
  rw [call_code T_22]
  by_cases h : b < a.length
  · have h1 : ¬ a.length ≤ b := by omega
    have e1 : IntKind.i64.wrap ((b : Int) + 1) = ((b + 1 : Nat) : Int) := by rw [w64 (by omega) (by omega)]; omega
    have e2 : IntKind.i64.wrap (((b + 1 : Nat) : Int) - 1) = (b : Int) := by rw [w64 (by omega) (by omega)]; omega
    have e3 : ¬ (n : Int) = 0 := by omega
    simp only [r22_0, r22_1, r22_2, r22_3, r22_4, F22, q22, go_sem, UInt8.reduceLT, UInt8.reduceLE, Int.reduceToNat, Int.reduceLE, Int.reduceLT, Int.reduceEq, Int.reduceNe, Int.reduceNeg, Int.reduceAdd, Int.reduceSub, Int.reduceMul, Nat.reducePow, Nat.reduceDiv, Nat.reduceMod, Nat.reduceAdd, Nat.reduceSub, Nat.reduceMul, Nat.reduceLT, Nat.reduceLeDiff, Nat.reduceEqDiff, Nat.reduceBEq, reduceCtorEq, reduceIte, codesO, h, h1, e1, e2, e3, nextV, nextA, ← Int.ofNat_tmod]
  · have h1 : a.length ≤ b := by omega
    simp only [r22_0, r22_1, r22_2, r22_3, r22_4, F22, q22, go_sem, UInt8.reduceLT, UInt8.reduceLE, Int.reduceToNat, Int.reduceLE, Int.reduceLT, Int.reduceEq, Int.reduceNe, Int.reduceNeg, Int.reduceAdd, Int.reduceSub, Int.reduceMul, Nat.reducePow, Nat.reduceDiv, Nat.reduceMod, Nat.reduceAdd, Nat.reduceSub, Nat.reduceMul, Nat.reduceLT, Nat.reduceLeDiff, Nat.reduceEqDiff, Nat.reduceBEq, reduceCtorEq, reduceIte, codesO, h, h1, nextV, nextA, Int.natCast_zero]

theorem f11 (s : List UInt8) (n : Nat) : call T 11 [.str s, .int .i64 n] [] 0 = some ⟨.str (s.take n), [], []⟩ := by
  rw [call_code T_11]
  by_cases h : n < s.length
  · have h2 : n ≤ s.length := by omega
    simp only [r11_0, r11_1, r11_2, r11_3, F11, q11, go_sem, UInt8.reduceLT, UInt8.reduceLE, Int.reduceToNat, Int.reduceLE, Int.reduceLT, Int.reduceEq, Int.reduceNe, Int.reduceNeg, Int.reduceAdd, Int.reduceSub, Int.reduceMul, Nat.reducePow, Nat.reduceDiv, Nat.reduceMod, Nat.reduceAdd, Nat.reduceSub, Nat.reduceMul, Nat.reduceLT, Nat.reduceLeDiff, Nat.reduceEqDiff, Nat.reduceBEq, reduceCtorEq, reduceIte, h, h2]
  · simp only [r11_0, r11_1, r11_2, r11_3, F11, q11, go_sem, UInt8.reduceLT, UInt8.reduceLE, Int.reduceToNat, Int.reduceLE, Int.reduceLT, Int.reduceEq, Int.reduceNe, Int.reduceNeg, Int.reduceAdd, Int.reduceSub, Int.reduceMul, Nat.reducePow, Nat.reduceDiv, Nat.reduceMod, Nat.reduceAdd, Nat.reduceSub, Nat.reduceMul, Nat.reduceLT, Nat.reduceLeDiff, Nat.reduceEqDiff, Nat.reduceBEq, reduceCtorEq, reduceIte, h, List.take_of_length_le (Nat.le_of_not_lt h)]
theorem f17 (s : List UInt8) (n : Nat) : call T 17 [.byt s .no, .int .i64 n] [] 0 = some ⟨.byt (s.take n) .no, [], []⟩ := by
  rw [call_code T_17]
  by_cases h : n < s.length
  · have h2 : n ≤ s.length := by omega
    simp only [r17_0, r17_1, r17_2, r17_3, F17, q17, go_sem, UInt8.reduceLT, UInt8.reduceLE, Int.reduceToNat, Int.reduceLE, Int.reduceLT, Int.reduceEq, Int.reduceNe, Int.reduceNeg, Int.reduceAdd, Int.reduceSub, Int.reduceMul, Nat.reducePow, Nat.reduceDiv, Nat.reduceMod, Nat.reduceAdd, Nat.reduceSub, Nat.reduceMul, Nat.reduceLT, Nat.reduceLeDiff, Nat.reduceEqDiff, Nat.reduceBEq, reduceCtorEq, reduceIte, h, h2]
  · simp only [r17_0, r17_1, r17_2, r17_3, F17, q17, go_sem, UInt8.reduceLT, UInt8.reduceLE, Int.reduceToNat, Int.reduceLE, Int.reduceLT, Int.reduceEq, Int.reduceNe, Int.reduceNeg, Int.reduceAdd, Int.reduceSub, Int.reduceMul, Nat.reducePow, Nat.reduceDiv, Nat.reduceMod, Nat.reduceAdd, Nat.reduceSub, Nat.reduceMul, Nat.reduceLT, Nat.reduceLeDiff, Nat.reduceEqDiff, Nat.reduceBEq, reduceCtorEq, reduceIte, h, List.take_of_length_le (Nat.le_of_not_lt h)]
end Go.Proofs.YtmekdaifojaoiaaDoor
