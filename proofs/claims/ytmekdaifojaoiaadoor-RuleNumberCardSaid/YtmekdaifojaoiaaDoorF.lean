/-
  Rules: what is checked of them, the whole.
-/
import Derived.Test.YtmekdaifojaoiaaDoorE
set_option maxRecDepth 100000
set_option linter.unusedSimpArgs false
set_option linter.unusedVariables false
namespace Go.Proofs.YtmekdaifojaoiaaDoor
open Go.Sy Go.Glob

theorem len32 (t : List UInt8) : ((32 : Int) < (t.length : Int)) ↔ 32 < t.length := by omega
set_option maxHeartbeats 4000000 in
theorem f14 (k : Int) (t : List UInt8) (lo hi : Int) (hl : t.length ≤ 1000000000000) : call T 14 [.agg [.int .i64 k, .str t, .int .i64 lo, .int .i64 hi]] [] 0 = some ⟨.int .i64 (chk k t lo hi), [], []⟩ := by
  rw [call_code T_14]
  have h := l14 k t lo hi hl _ 0 rfl (by omega)
  simp only [Int.natCast_zero, List.drop_zero] at h
  unfold chk
  by_cases c1 : k < 1
  · simp only [r14_0, r14_1, r14_2, r14_3, r14_4, r14_5, r14_6, r14_7, r14_8, r14_9, r14_11, r14_12, r14_13, r14_14, r14_15, r14_16, r14_17, r14_18, r14_19, F14, q14_10, q14, go_sem, UInt8.reduceLT, UInt8.reduceLE, Int.reduceToNat, Int.reduceLE, Int.reduceLT, Int.reduceEq, Int.reduceNe, Int.reduceNeg, Int.reduceAdd, Int.reduceSub, Int.reduceMul, Nat.reducePow, Nat.reduceDiv, Nat.reduceMod, Nat.reduceAdd, Nat.reduceSub, Nat.reduceMul, Nat.reduceLT, Nat.reduceLeDiff, Nat.reduceEqDiff, Nat.reduceBEq, reduceCtorEq, reduceIte, h, c1]
  by_cases c2 : 4 < k
  · simp only [r14_0, r14_1, r14_2, r14_3, r14_4, r14_5, r14_6, r14_7, r14_8, r14_9, r14_11, r14_12, r14_13, r14_14, r14_15, r14_16, r14_17, r14_18, r14_19, F14, q14_10, q14, go_sem, UInt8.reduceLT, UInt8.reduceLE, Int.reduceToNat, Int.reduceLE, Int.reduceLT, Int.reduceEq, Int.reduceNe, Int.reduceNeg, Int.reduceAdd, Int.reduceSub, Int.reduceMul, Nat.reducePow, Nat.reduceDiv, Nat.reduceMod, Nat.reduceAdd, Nat.reduceSub, Nat.reduceMul, Nat.reduceLT, Nat.reduceLeDiff, Nat.reduceEqDiff, Nat.reduceBEq, reduceCtorEq, reduceIte, h, c1, c2]
  cases c3 : prn t with
  | false => simp only [r14_0, r14_1, r14_2, r14_3, r14_4, r14_5, r14_6, r14_7, r14_8, r14_9, r14_11, r14_12, r14_13, r14_14, r14_15, r14_16, r14_17, r14_18, r14_19, F14, q14_10, q14, go_sem, UInt8.reduceLT, UInt8.reduceLE, Int.reduceToNat, Int.reduceLE, Int.reduceLT, Int.reduceEq, Int.reduceNe, Int.reduceNeg, Int.reduceAdd, Int.reduceSub, Int.reduceMul, Nat.reducePow, Nat.reduceDiv, Nat.reduceMod, Nat.reduceAdd, Nat.reduceSub, Nat.reduceMul, Nat.reduceLT, Nat.reduceLeDiff, Nat.reduceEqDiff, Nat.reduceBEq, reduceCtorEq, reduceIte, h, c1, c2, c3]
  | true =>
    by_cases c4 : k = 4
    · subst c4
      by_cases c5 : lo < 0
      · simp only [r14_0, r14_1, r14_2, r14_3, r14_4, r14_5, r14_6, r14_7, r14_8, r14_9, r14_11, r14_12, r14_13, r14_14, r14_15, r14_16, r14_17, r14_18, r14_19, F14, q14_10, q14, go_sem, UInt8.reduceLT, UInt8.reduceLE, Int.reduceToNat, Int.reduceLE, Int.reduceLT, Int.reduceEq, Int.reduceNe, Int.reduceNeg, Int.reduceAdd, Int.reduceSub, Int.reduceMul, Nat.reducePow, Nat.reduceDiv, Nat.reduceMod, Nat.reduceAdd, Nat.reduceSub, Nat.reduceMul, Nat.reduceLT, Nat.reduceLeDiff, Nat.reduceEqDiff, Nat.reduceBEq, reduceCtorEq, reduceIte, h, c3, c5]
      by_cases c6 : hi < lo
      · simp only [r14_0, r14_1, r14_2, r14_3, r14_4, r14_5, r14_6, r14_7, r14_8, r14_9, r14_11, r14_12, r14_13, r14_14, r14_15, r14_16, r14_17, r14_18, r14_19, F14, q14_10, q14, go_sem, UInt8.reduceLT, UInt8.reduceLE, Int.reduceToNat, Int.reduceLE, Int.reduceLT, Int.reduceEq, Int.reduceNe, Int.reduceNeg, Int.reduceAdd, Int.reduceSub, Int.reduceMul, Nat.reducePow, Nat.reduceDiv, Nat.reduceMod, Nat.reduceAdd, Nat.reduceSub, Nat.reduceMul, Nat.reduceLT, Nat.reduceLeDiff, Nat.reduceEqDiff, Nat.reduceBEq, reduceCtorEq, reduceIte, h, c3, c5, c6]
      by_cases c7 : 1000000000 < hi
      · simp only [r14_0, r14_1, r14_2, r14_3, r14_4, r14_5, r14_6, r14_7, r14_8, r14_9, r14_11, r14_12, r14_13, r14_14, r14_15, r14_16, r14_17, r14_18, r14_19, F14, q14_10, q14, go_sem, UInt8.reduceLT, UInt8.reduceLE, Int.reduceToNat, Int.reduceLE, Int.reduceLT, Int.reduceEq, Int.reduceNe, Int.reduceNeg, Int.reduceAdd, Int.reduceSub, Int.reduceMul, Nat.reducePow, Nat.reduceDiv, Nat.reduceMod, Nat.reduceAdd, Nat.reduceSub, Nat.reduceMul, Nat.reduceLT, Nat.reduceLeDiff, Nat.reduceEqDiff, Nat.reduceBEq, reduceCtorEq, reduceIte, h, c3, c5, c6, c7]
      by_cases c8 : 32 < t.length
      · simp only [r14_0, r14_1, r14_2, r14_3, r14_4, r14_5, r14_6, r14_7, r14_8, r14_9, r14_11, r14_12, r14_13, r14_14, r14_15, r14_16, r14_17, r14_18, r14_19, F14, q14_10, q14, go_sem, UInt8.reduceLT, UInt8.reduceLE, Int.reduceToNat, Int.reduceLE, Int.reduceLT, Int.reduceEq, Int.reduceNe, Int.reduceNeg, Int.reduceAdd, Int.reduceSub, Int.reduceMul, Nat.reducePow, Nat.reduceDiv, Nat.reduceMod, Nat.reduceAdd, Nat.reduceSub, Nat.reduceMul, Nat.reduceLT, Nat.reduceLeDiff, Nat.reduceEqDiff, Nat.reduceBEq, reduceCtorEq, reduceIte, h, c3, c5, c6, c7, c8, len32]
      · simp only [r14_0, r14_1, r14_2, r14_3, r14_4, r14_5, r14_6, r14_7, r14_8, r14_9, r14_11, r14_12, r14_13, r14_14, r14_15, r14_16, r14_17, r14_18, r14_19, F14, q14_10, q14, go_sem, UInt8.reduceLT, UInt8.reduceLE, Int.reduceToNat, Int.reduceLE, Int.reduceLT, Int.reduceEq, Int.reduceNe, Int.reduceNeg, Int.reduceAdd, Int.reduceSub, Int.reduceMul, Nat.reducePow, Nat.reduceDiv, Nat.reduceMod, Nat.reduceAdd, Nat.reduceSub, Nat.reduceMul, Nat.reduceLT, Nat.reduceLeDiff, Nat.reduceEqDiff, Nat.reduceBEq, reduceCtorEq, reduceIte, h, c3, c5, c6, c7, c8, len32]
    · by_cases c5 : lo = 0
      · subst c5
        by_cases c6 : hi = 0
        · subst c6
          by_cases c7 : k = 1
          · subst c7
            by_cases c8 : t = []
            · subst c8
              try simp only [List.length_nil, Int.natCast_zero] at h
              simp only [r14_0, r14_1, r14_2, r14_3, r14_4, r14_5, r14_6, r14_7, r14_8, r14_9, r14_11, r14_12, r14_13, r14_14, r14_15, r14_16, r14_17, r14_18, r14_19, F14, q14_10, q14, go_sem, UInt8.reduceLT, UInt8.reduceLE, Int.reduceToNat, Int.reduceLE, Int.reduceLT, Int.reduceEq, Int.reduceNe, Int.reduceNeg, Int.reduceAdd, Int.reduceSub, Int.reduceMul, Nat.reducePow, Nat.reduceDiv, Nat.reduceMod, Nat.reduceAdd, Nat.reduceSub, Nat.reduceMul, Nat.reduceLT, Nat.reduceLeDiff, Nat.reduceEqDiff, Nat.reduceBEq, reduceCtorEq, reduceIte, h, c3, List.length_nil, Int.natCast_zero]
            · simp only [r14_0, r14_1, r14_2, r14_3, r14_4, r14_5, r14_6, r14_7, r14_8, r14_9, r14_11, r14_12, r14_13, r14_14, r14_15, r14_16, r14_17, r14_18, r14_19, F14, q14_10, q14, go_sem, UInt8.reduceLT, UInt8.reduceLE, Int.reduceToNat, Int.reduceLE, Int.reduceLT, Int.reduceEq, Int.reduceNe, Int.reduceNeg, Int.reduceAdd, Int.reduceSub, Int.reduceMul, Nat.reducePow, Nat.reduceDiv, Nat.reduceMod, Nat.reduceAdd, Nat.reduceSub, Nat.reduceMul, Nat.reduceLT, Nat.reduceLeDiff, Nat.reduceEqDiff, Nat.reduceBEq, reduceCtorEq, reduceIte, h, c3, c8]
          · by_cases c8 : 32 < t.length
            · simp only [r14_0, r14_1, r14_2, r14_3, r14_4, r14_5, r14_6, r14_7, r14_8, r14_9, r14_11, r14_12, r14_13, r14_14, r14_15, r14_16, r14_17, r14_18, r14_19, F14, q14_10, q14, go_sem, UInt8.reduceLT, UInt8.reduceLE, Int.reduceToNat, Int.reduceLE, Int.reduceLT, Int.reduceEq, Int.reduceNe, Int.reduceNeg, Int.reduceAdd, Int.reduceSub, Int.reduceMul, Nat.reducePow, Nat.reduceDiv, Nat.reduceMod, Nat.reduceAdd, Nat.reduceSub, Nat.reduceMul, Nat.reduceLT, Nat.reduceLeDiff, Nat.reduceEqDiff, Nat.reduceBEq, reduceCtorEq, reduceIte, h, c1, c2, c3, c4, c7, c8, len32]
            · simp only [r14_0, r14_1, r14_2, r14_3, r14_4, r14_5, r14_6, r14_7, r14_8, r14_9, r14_11, r14_12, r14_13, r14_14, r14_15, r14_16, r14_17, r14_18, r14_19, F14, q14_10, q14, go_sem, UInt8.reduceLT, UInt8.reduceLE, Int.reduceToNat, Int.reduceLE, Int.reduceLT, Int.reduceEq, Int.reduceNe, Int.reduceNeg, Int.reduceAdd, Int.reduceSub, Int.reduceMul, Nat.reducePow, Nat.reduceDiv, Nat.reduceMod, Nat.reduceAdd, Nat.reduceSub, Nat.reduceMul, Nat.reduceLT, Nat.reduceLeDiff, Nat.reduceEqDiff, Nat.reduceBEq, reduceCtorEq, reduceIte, h, c1, c2, c3, c4, c7, c8, len32]
        · simp only [r14_0, r14_1, r14_2, r14_3, r14_4, r14_5, r14_6, r14_7, r14_8, r14_9, r14_11, r14_12, r14_13, r14_14, r14_15, r14_16, r14_17, r14_18, r14_19, F14, q14_10, q14, go_sem, UInt8.reduceLT, UInt8.reduceLE, Int.reduceToNat, Int.reduceLE, Int.reduceLT, Int.reduceEq, Int.reduceNe, Int.reduceNeg, Int.reduceAdd, Int.reduceSub, Int.reduceMul, Nat.reducePow, Nat.reduceDiv, Nat.reduceMod, Nat.reduceAdd, Nat.reduceSub, Nat.reduceMul, Nat.reduceLT, Nat.reduceLeDiff, Nat.reduceEqDiff, Nat.reduceBEq, reduceCtorEq, reduceIte, h, c1, c2, c3, c4, c6]
      · simp only [r14_0, r14_1, r14_2, r14_3, r14_4, r14_5, r14_6, r14_7, r14_8, r14_9, r14_11, r14_12, r14_13, r14_14, r14_15, r14_16, r14_17, r14_18, r14_19, F14, q14_10, q14, go_sem, UInt8.reduceLT, UInt8.reduceLE, Int.reduceToNat, Int.reduceLE, Int.reduceLT, Int.reduceEq, Int.reduceNe, Int.reduceNeg, Int.reduceAdd, Int.reduceSub, Int.reduceMul, Nat.reducePow, Nat.reduceDiv, Nat.reduceMod, Nat.reduceAdd, Nat.reduceSub, Nat.reduceMul, Nat.reduceLT, Nat.reduceLeDiff, Nat.reduceEqDiff, Nat.reduceBEq, reduceCtorEq, reduceIte, h, c1, c2, c3, c4, c5]
set_option maxHeartbeats 4000000 in
theorem f15 (k : Int) (t : List UInt8) (lo hi : Int) (hl : t.length ≤ 1000000000000) : call T 15 [.agg [.int .i64 k, .str t, .int .i64 lo, .int .i64 hi]] [] 0 = some ⟨.int .i64 (chk k t lo hi), [], []⟩ := by
  rw [call_code T_15]
  have h := l15 k t lo hi hl _ 0 rfl (by omega)
  simp only [Int.natCast_zero, List.drop_zero] at h
  unfold chk
  by_cases c1 : k < 1
  · simp only [r15_0, r15_1, r15_2, r15_3, r15_4, r15_5, r15_6, r15_7, r15_9, r15_10, r15_11, r15_12, r15_13, r15_14, r15_15, r15_16, r15_17, r15_18, F15, q15_8, q15, go_sem, UInt8.reduceLT, UInt8.reduceLE, Int.reduceToNat, Int.reduceLE, Int.reduceLT, Int.reduceEq, Int.reduceNe, Int.reduceNeg, Int.reduceAdd, Int.reduceSub, Int.reduceMul, Nat.reducePow, Nat.reduceDiv, Nat.reduceMod, Nat.reduceAdd, Nat.reduceSub, Nat.reduceMul, Nat.reduceLT, Nat.reduceLeDiff, Nat.reduceEqDiff, Nat.reduceBEq, reduceCtorEq, reduceIte, h, c1]
  by_cases c2 : 4 < k
  · simp only [r15_0, r15_1, r15_2, r15_3, r15_4, r15_5, r15_6, r15_7, r15_9, r15_10, r15_11, r15_12, r15_13, r15_14, r15_15, r15_16, r15_17, r15_18, F15, q15_8, q15, go_sem, UInt8.reduceLT, UInt8.reduceLE, Int.reduceToNat, Int.reduceLE, Int.reduceLT, Int.reduceEq, Int.reduceNe, Int.reduceNeg, Int.reduceAdd, Int.reduceSub, Int.reduceMul, Nat.reducePow, Nat.reduceDiv, Nat.reduceMod, Nat.reduceAdd, Nat.reduceSub, Nat.reduceMul, Nat.reduceLT, Nat.reduceLeDiff, Nat.reduceEqDiff, Nat.reduceBEq, reduceCtorEq, reduceIte, h, c1, c2]
  cases c3 : prn t with
  | false => simp only [r15_0, r15_1, r15_2, r15_3, r15_4, r15_5, r15_6, r15_7, r15_9, r15_10, r15_11, r15_12, r15_13, r15_14, r15_15, r15_16, r15_17, r15_18, F15, q15_8, q15, go_sem, UInt8.reduceLT, UInt8.reduceLE, Int.reduceToNat, Int.reduceLE, Int.reduceLT, Int.reduceEq, Int.reduceNe, Int.reduceNeg, Int.reduceAdd, Int.reduceSub, Int.reduceMul, Nat.reducePow, Nat.reduceDiv, Nat.reduceMod, Nat.reduceAdd, Nat.reduceSub, Nat.reduceMul, Nat.reduceLT, Nat.reduceLeDiff, Nat.reduceEqDiff, Nat.reduceBEq, reduceCtorEq, reduceIte, h, c1, c2, c3]
  | true =>
    by_cases c4 : k = 4
    · subst c4
      by_cases c5 : lo < 0
      · simp only [r15_0, r15_1, r15_2, r15_3, r15_4, r15_5, r15_6, r15_7, r15_9, r15_10, r15_11, r15_12, r15_13, r15_14, r15_15, r15_16, r15_17, r15_18, F15, q15_8, q15, go_sem, UInt8.reduceLT, UInt8.reduceLE, Int.reduceToNat, Int.reduceLE, Int.reduceLT, Int.reduceEq, Int.reduceNe, Int.reduceNeg, Int.reduceAdd, Int.reduceSub, Int.reduceMul, Nat.reducePow, Nat.reduceDiv, Nat.reduceMod, Nat.reduceAdd, Nat.reduceSub, Nat.reduceMul, Nat.reduceLT, Nat.reduceLeDiff, Nat.reduceEqDiff, Nat.reduceBEq, reduceCtorEq, reduceIte, h, c3, c5]
      by_cases c6 : hi < lo
      · simp only [r15_0, r15_1, r15_2, r15_3, r15_4, r15_5, r15_6, r15_7, r15_9, r15_10, r15_11, r15_12, r15_13, r15_14, r15_15, r15_16, r15_17, r15_18, F15, q15_8, q15, go_sem, UInt8.reduceLT, UInt8.reduceLE, Int.reduceToNat, Int.reduceLE, Int.reduceLT, Int.reduceEq, Int.reduceNe, Int.reduceNeg, Int.reduceAdd, Int.reduceSub, Int.reduceMul, Nat.reducePow, Nat.reduceDiv, Nat.reduceMod, Nat.reduceAdd, Nat.reduceSub, Nat.reduceMul, Nat.reduceLT, Nat.reduceLeDiff, Nat.reduceEqDiff, Nat.reduceBEq, reduceCtorEq, reduceIte, h, c3, c5, c6]
      by_cases c7 : 1000000000 < hi
      · simp only [r15_0, r15_1, r15_2, r15_3, r15_4, r15_5, r15_6, r15_7, r15_9, r15_10, r15_11, r15_12, r15_13, r15_14, r15_15, r15_16, r15_17, r15_18, F15, q15_8, q15, go_sem, UInt8.reduceLT, UInt8.reduceLE, Int.reduceToNat, Int.reduceLE, Int.reduceLT, Int.reduceEq, Int.reduceNe, Int.reduceNeg, Int.reduceAdd, Int.reduceSub, Int.reduceMul, Nat.reducePow, Nat.reduceDiv, Nat.reduceMod, Nat.reduceAdd, Nat.reduceSub, Nat.reduceMul, Nat.reduceLT, Nat.reduceLeDiff, Nat.reduceEqDiff, Nat.reduceBEq, reduceCtorEq, reduceIte, h, c3, c5, c6, c7]
      by_cases c8 : 32 < t.length
      · simp only [r15_0, r15_1, r15_2, r15_3, r15_4, r15_5, r15_6, r15_7, r15_9, r15_10, r15_11, r15_12, r15_13, r15_14, r15_15, r15_16, r15_17, r15_18, F15, q15_8, q15, go_sem, UInt8.reduceLT, UInt8.reduceLE, Int.reduceToNat, Int.reduceLE, Int.reduceLT, Int.reduceEq, Int.reduceNe, Int.reduceNeg, Int.reduceAdd, Int.reduceSub, Int.reduceMul, Nat.reducePow, Nat.reduceDiv, Nat.reduceMod, Nat.reduceAdd, Nat.reduceSub, Nat.reduceMul, Nat.reduceLT, Nat.reduceLeDiff, Nat.reduceEqDiff, Nat.reduceBEq, reduceCtorEq, reduceIte, h, c3, c5, c6, c7, c8, len32]
      · simp only [r15_0, r15_1, r15_2, r15_3, r15_4, r15_5, r15_6, r15_7, r15_9, r15_10, r15_11, r15_12, r15_13, r15_14, r15_15, r15_16, r15_17, r15_18, F15, q15_8, q15, go_sem, UInt8.reduceLT, UInt8.reduceLE, Int.reduceToNat, Int.reduceLE, Int.reduceLT, Int.reduceEq, Int.reduceNe, Int.reduceNeg, Int.reduceAdd, Int.reduceSub, Int.reduceMul, Nat.reducePow, Nat.reduceDiv, Nat.reduceMod, Nat.reduceAdd, Nat.reduceSub, Nat.reduceMul, Nat.reduceLT, Nat.reduceLeDiff, Nat.reduceEqDiff, Nat.reduceBEq, reduceCtorEq, reduceIte, h, c3, c5, c6, c7, c8, len32]
    · by_cases c5 : lo = 0
      · subst c5
        by_cases c6 : hi = 0
        · subst c6
          by_cases c7 : k = 1
          · subst c7
            by_cases c8 : t = []
            · subst c8
              try simp only [List.length_nil, Int.natCast_zero] at h
              simp only [r15_0, r15_1, r15_2, r15_3, r15_4, r15_5, r15_6, r15_7, r15_9, r15_10, r15_11, r15_12, r15_13, r15_14, r15_15, r15_16, r15_17, r15_18, F15, q15_8, q15, go_sem, UInt8.reduceLT, UInt8.reduceLE, Int.reduceToNat, Int.reduceLE, Int.reduceLT, Int.reduceEq, Int.reduceNe, Int.reduceNeg, Int.reduceAdd, Int.reduceSub, Int.reduceMul, Nat.reducePow, Nat.reduceDiv, Nat.reduceMod, Nat.reduceAdd, Nat.reduceSub, Nat.reduceMul, Nat.reduceLT, Nat.reduceLeDiff, Nat.reduceEqDiff, Nat.reduceBEq, reduceCtorEq, reduceIte, h, c3, List.length_nil, Int.natCast_zero]
            · simp only [r15_0, r15_1, r15_2, r15_3, r15_4, r15_5, r15_6, r15_7, r15_9, r15_10, r15_11, r15_12, r15_13, r15_14, r15_15, r15_16, r15_17, r15_18, F15, q15_8, q15, go_sem, UInt8.reduceLT, UInt8.reduceLE, Int.reduceToNat, Int.reduceLE, Int.reduceLT, Int.reduceEq, Int.reduceNe, Int.reduceNeg, Int.reduceAdd, Int.reduceSub, Int.reduceMul, Nat.reducePow, Nat.reduceDiv, Nat.reduceMod, Nat.reduceAdd, Nat.reduceSub, Nat.reduceMul, Nat.reduceLT, Nat.reduceLeDiff, Nat.reduceEqDiff, Nat.reduceBEq, reduceCtorEq, reduceIte, h, c3, c8]
          · by_cases c8 : 32 < t.length
            · simp only [r15_0, r15_1, r15_2, r15_3, r15_4, r15_5, r15_6, r15_7, r15_9, r15_10, r15_11, r15_12, r15_13, r15_14, r15_15, r15_16, r15_17, r15_18, F15, q15_8, q15, go_sem, UInt8.reduceLT, UInt8.reduceLE, Int.reduceToNat, Int.reduceLE, Int.reduceLT, Int.reduceEq, Int.reduceNe, Int.reduceNeg, Int.reduceAdd, Int.reduceSub, Int.reduceMul, Nat.reducePow, Nat.reduceDiv, Nat.reduceMod, Nat.reduceAdd, Nat.reduceSub, Nat.reduceMul, Nat.reduceLT, Nat.reduceLeDiff, Nat.reduceEqDiff, Nat.reduceBEq, reduceCtorEq, reduceIte, h, c1, c2, c3, c4, c7, c8, len32]
            · simp only [r15_0, r15_1, r15_2, r15_3, r15_4, r15_5, r15_6, r15_7, r15_9, r15_10, r15_11, r15_12, r15_13, r15_14, r15_15, r15_16, r15_17, r15_18, F15, q15_8, q15, go_sem, UInt8.reduceLT, UInt8.reduceLE, Int.reduceToNat, Int.reduceLE, Int.reduceLT, Int.reduceEq, Int.reduceNe, Int.reduceNeg, Int.reduceAdd, Int.reduceSub, Int.reduceMul, Nat.reducePow, Nat.reduceDiv, Nat.reduceMod, Nat.reduceAdd, Nat.reduceSub, Nat.reduceMul, Nat.reduceLT, Nat.reduceLeDiff, Nat.reduceEqDiff, Nat.reduceBEq, reduceCtorEq, reduceIte, h, c1, c2, c3, c4, c7, c8, len32]
        · simp only [r15_0, r15_1, r15_2, r15_3, r15_4, r15_5, r15_6, r15_7, r15_9, r15_10, r15_11, r15_12, r15_13, r15_14, r15_15, r15_16, r15_17, r15_18, F15, q15_8, q15, go_sem, UInt8.reduceLT, UInt8.reduceLE, Int.reduceToNat, Int.reduceLE, Int.reduceLT, Int.reduceEq, Int.reduceNe, Int.reduceNeg, Int.reduceAdd, Int.reduceSub, Int.reduceMul, Nat.reducePow, Nat.reduceDiv, Nat.reduceMod, Nat.reduceAdd, Nat.reduceSub, Nat.reduceMul, Nat.reduceLT, Nat.reduceLeDiff, Nat.reduceEqDiff, Nat.reduceBEq, reduceCtorEq, reduceIte, h, c1, c2, c3, c4, c6]
      · simp only [r15_0, r15_1, r15_2, r15_3, r15_4, r15_5, r15_6, r15_7, r15_9, r15_10, r15_11, r15_12, r15_13, r15_14, r15_15, r15_16, r15_17, r15_18, F15, q15_8, q15, go_sem, UInt8.reduceLT, UInt8.reduceLE, Int.reduceToNat, Int.reduceLE, Int.reduceLT, Int.reduceEq, Int.reduceNe, Int.reduceNeg, Int.reduceAdd, Int.reduceSub, Int.reduceMul, Nat.reducePow, Nat.reduceDiv, Nat.reduceMod, Nat.reduceAdd, Nat.reduceSub, Nat.reduceMul, Nat.reduceLT, Nat.reduceLeDiff, Nat.reduceEqDiff, Nat.reduceBEq, reduceCtorEq, reduceIte, h, c1, c2, c3, c4, c5]
end Go.Proofs.YtmekdaifojaoiaaDoor
