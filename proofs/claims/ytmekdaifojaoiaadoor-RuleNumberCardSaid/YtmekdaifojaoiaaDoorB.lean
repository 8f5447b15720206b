/-
  Trimming stars; prefixes.
-/
import Derived.Test.YtmekdaifojaoiaaDoorA
set_option maxRecDepth 100000
set_option linter.unusedSimpArgs false
set_option linter.unusedVariables false
namespace Go.Proofs.YtmekdaifojaoiaaDoor
open Go.Sy

def dropL (c : UInt8) : List UInt8 → List UInt8
  | [] => []
  | x :: r => if x = c then dropL c r else x :: r
theorem l33 (c : UInt8) : ∀ s : List UInt8, run T (.loop r33_3) ⟨[(0, .str s), (1, .u8 c)], [], []⟩ = some (.x 0, ⟨[(0, .str (dropL c s))], [], []⟩)
  | [] => by
    rw [run_loop]
    simp only [r33_0, r33_1, r33_2, r33_4, F33, q33_3, q33, go_sem, UInt8.reduceLT, UInt8.reduceLE, Int.reduceToNat, Int.reduceLE, Int.reduceLT, Int.reduceEq, Int.reduceNe, Int.reduceNeg, Int.reduceAdd, Int.reduceSub, Int.reduceMul, Nat.reducePow, Nat.reduceDiv, Nat.reduceMod, Nat.reduceAdd, Nat.reduceSub, Nat.reduceMul, Nat.reduceLT, Nat.reduceLeDiff, Nat.reduceEqDiff, Nat.reduceBEq, reduceCtorEq, reduceIte, dropL, Int.natCast_zero]
  | x :: r => by
    rw [run_loop]
    have h := l33 c r
    have e1 : (0 : Int) < ((r.length + 1 : Nat) : Int) := by omega
    have e2 : (1 : Int) ≤ ((r.length + 1 : Nat) : Int) := by omega
    by_cases hc : x = c
    · simp only [r33_0, r33_1, r33_2, r33_4, F33, q33_3, q33, go_sem, UInt8.reduceLT, UInt8.reduceLE, Int.reduceToNat, Int.reduceLE, Int.reduceLT, Int.reduceEq, Int.reduceNe, Int.reduceNeg, Int.reduceAdd, Int.reduceSub, Int.reduceMul, Nat.reducePow, Nat.reduceDiv, Nat.reduceMod, Nat.reduceAdd, Nat.reduceSub, Nat.reduceMul, Nat.reduceLT, Nat.reduceLeDiff, Nat.reduceEqDiff, Nat.reduceBEq, reduceCtorEq, reduceIte, dropL, hc, h, List.length_cons, List.getD_cons_zero, e1, e2, List.drop_succ_cons, List.drop_zero, List.take_length]
    · simp only [r33_0, r33_1, r33_2, r33_4, F33, q33_3, q33, go_sem, UInt8.reduceLT, UInt8.reduceLE, Int.reduceToNat, Int.reduceLE, Int.reduceLT, Int.reduceEq, Int.reduceNe, Int.reduceNeg, Int.reduceAdd, Int.reduceSub, Int.reduceMul, Nat.reducePow, Nat.reduceDiv, Nat.reduceMod, Nat.reduceAdd, Nat.reduceSub, Nat.reduceMul, Nat.reduceLT, Nat.reduceLeDiff, Nat.reduceEqDiff, Nat.reduceBEq, reduceCtorEq, reduceIte, dropL, hc, h, List.length_cons, List.getD_cons_zero, e1]
theorem f33 (c : UInt8) (s : List UInt8) : call T 33 [.str s, .u8 c] [] 0 = some ⟨.str (dropL c s), [], []⟩ := by
  rw [call_code T_33]
  simp only [r33_0, r33_1, r33_2, r33_4, F33, q33_3, q33, go_sem, UInt8.reduceLT, UInt8.reduceLE, Int.reduceToNat, Int.reduceLE, Int.reduceLT, Int.reduceEq, Int.reduceNe, Int.reduceNeg, Int.reduceAdd, Int.reduceSub, Int.reduceMul, Nat.reducePow, Nat.reduceDiv, Nat.reduceMod, Nat.reduceAdd, Nat.reduceSub, Nat.reduceMul, Nat.reduceLT, Nat.reduceLeDiff, Nat.reduceEqDiff, Nat.reduceBEq, reduceCtorEq, reduceIte, l33]
def dropR (c : UInt8) (s : List UInt8) : List UInt8 := (dropL c s.reverse).reverse
theorem dropR_nil (c : UInt8) : dropR c [] = [] := rfl
theorem dropR_app (c x : UInt8) (s : List UInt8) : dropR c (s ++ [x]) = if x = c then dropR c s else s ++ [x] := by
  unfold dropR
  rw [List.reverse_append, List.reverse_singleton, List.singleton_append, dropL]
  split
  · rfl
  · simp
theorem l34 (c : UInt8) : ∀ (n : Nat) (s : List UInt8), s.length = n → n < 9223372036854775807 → run T (.loop r34_3) ⟨[(0, .str s), (1, .u8 c)], [], []⟩ = some (.x 0, ⟨[(0, .str (dropR c s))], [], []⟩) := by
  intro n
  induction n with
  | zero =>
    intro s hs _
    cases s with
    | cons _ _ => simp at hs
    | nil =>
      rw [run_loop]
      simp only [r34_0, r34_1, r34_2, r34_4, F34, q34_3, q34, go_sem, UInt8.reduceLT, UInt8.reduceLE, Int.reduceToNat, Int.reduceLE, Int.reduceLT, Int.reduceEq, Int.reduceNe, Int.reduceNeg, Int.reduceAdd, Int.reduceSub, Int.reduceMul, Nat.reducePow, Nat.reduceDiv, Nat.reduceMod, Nat.reduceAdd, Nat.reduceSub, Nat.reduceMul, Nat.reduceLT, Nat.reduceLeDiff, Nat.reduceEqDiff, Nat.reduceBEq, reduceCtorEq, reduceIte, dropR_nil, List.length_nil, Int.natCast_zero]
  | succ n ih =>
    intro s hs hn
    obtain ⟨t, x, rfl⟩ : ∃ t x, s = t ++ [x] := ⟨s.dropLast, s.getLast (by intro e; subst e; simp at hs), (List.dropLast_concat_getLast _).symm⟩
    have ht : t.length = n := by simpa using hs
    have h := ih t ht (by omega)
    rw [run_loop]
    generalize hu : t ++ [x] = u
    have e0 : (0 : Int) < ((u.length : Nat) : Int) := by subst hu; simp
    have hul : u.length = t.length + 1 := by subst hu; simp
    have e1 : IntKind.i64.wrap ((u.length : Int) - 1) = ((t.length : Nat) : Int) := by rw [w64 (by omega) (by omega)]; omega
    have e2 : u.getD t.length 0 = x := by subst hu; simp [List.getD_eq_getElem?_getD]
    have e3 : u.take t.length = t := by subst hu; simp
    have e6 : t.length < u.length := by subst hu; simp
    have e7 : t.length ≤ u.length := by omega
    have e8 : dropR c u = if x = c then dropR c t else u := by subst hu; exact dropR_app c x t
    by_cases hc : x = c
    · simp only [r34_0, r34_1, r34_2, r34_4, F34, q34_3, q34, go_sem, UInt8.reduceLT, UInt8.reduceLE, Int.reduceToNat, Int.reduceLE, Int.reduceLT, Int.reduceEq, Int.reduceNe, Int.reduceNeg, Int.reduceAdd, Int.reduceSub, Int.reduceMul, Nat.reducePow, Nat.reduceDiv, Nat.reduceMod, Nat.reduceAdd, Nat.reduceSub, Nat.reduceMul, Nat.reduceLT, Nat.reduceLeDiff, Nat.reduceEqDiff, Nat.reduceBEq, reduceCtorEq, reduceIte, hc, h, e0, e1, e2, e3, e6, e7, e8]
    · simp only [r34_0, r34_1, r34_2, r34_4, F34, q34_3, q34, go_sem, UInt8.reduceLT, UInt8.reduceLE, Int.reduceToNat, Int.reduceLE, Int.reduceLT, Int.reduceEq, Int.reduceNe, Int.reduceNeg, Int.reduceAdd, Int.reduceSub, Int.reduceMul, Nat.reducePow, Nat.reduceDiv, Nat.reduceMod, Nat.reduceAdd, Nat.reduceSub, Nat.reduceMul, Nat.reduceLT, Nat.reduceLeDiff, Nat.reduceEqDiff, Nat.reduceBEq, reduceCtorEq, reduceIte, hc, h, e0, e1, e2, e3, e6, e7, e8]
theorem f34 (c : UInt8) (s : List UInt8) (hs : s.length < 9223372036854775807) : call T 34 [.str s, .u8 c] [] 0 = some ⟨.str (dropR c s), [], []⟩ := by
  rw [call_code T_34]
  simp only [r34_0, r34_1, r34_2, r34_4, F34, q34_3, q34, go_sem, UInt8.reduceLT, UInt8.reduceLE, Int.reduceToNat, Int.reduceLE, Int.reduceLT, Int.reduceEq, Int.reduceNe, Int.reduceNeg, Int.reduceAdd, Int.reduceSub, Int.reduceMul, Nat.reducePow, Nat.reduceDiv, Nat.reduceMod, Nat.reduceAdd, Nat.reduceSub, Nat.reduceMul, Nat.reduceLT, Nat.reduceLeDiff, Nat.reduceEqDiff, Nat.reduceBEq, reduceCtorEq, reduceIte, l34 c _ s rfl hs]
theorem f28 (s : List UInt8) (hs : s.length < 9223372036854775807) : call T 28 [.str s, .str [42]] [] 0 = some ⟨.str (dropL 42 (dropR 42 s)), [], []⟩ := by
  rw [call_code T_28]
  by_cases h : s = []
  · subst h
    simp only [r28_0, r28_1, r28_2, r28_3, r28_4, r28_5, r28_6, r28_7, r28_8, F28, q28, go_sem, UInt8.reduceLT, UInt8.reduceLE, Int.reduceToNat, Int.reduceLE, Int.reduceLT, Int.reduceEq, Int.reduceNe, Int.reduceNeg, Int.reduceAdd, Int.reduceSub, Int.reduceMul, Nat.reducePow, Nat.reduceDiv, Nat.reduceMod, Nat.reduceAdd, Nat.reduceSub, Nat.reduceMul, Nat.reduceLT, Nat.reduceLeDiff, Nat.reduceEqDiff, Nat.reduceBEq, reduceCtorEq, reduceIte, dropR_nil, dropL]
  · have c1 : ((1 : Nat) : Int) = 1 := rfl
    simp only [r28_0, r28_1, r28_2, r28_3, r28_4, r28_5, r28_6, r28_7, r28_8, F28, q28, go_sem, UInt8.reduceLT, UInt8.reduceLE, Int.reduceToNat, Int.reduceLE, Int.reduceLT, Int.reduceEq, Int.reduceNe, Int.reduceNeg, Int.reduceAdd, Int.reduceSub, Int.reduceMul, Nat.reducePow, Nat.reduceDiv, Nat.reduceMod, Nat.reduceAdd, Nat.reduceSub, Nat.reduceMul, Nat.reduceLT, Nat.reduceLeDiff, Nat.reduceEqDiff, Nat.reduceBEq, reduceCtorEq, reduceIte, h, f34 42 s hs, f33, c1, S_33, S_34]
end Go.Proofs.YtmekdaifojaoiaaDoor
