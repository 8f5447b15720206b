/-
  Which lines a rule allows; the examples.
-/
import Derived.Test.YtmekdaifojaoiaaDoorH
set_option maxRecDepth 100000
set_option linter.unusedSimpArgs false
set_option linter.unusedVariables false
namespace Go.Proofs.YtmekdaifojaoiaaDoor
open Go.Sy Go.Glob

def alw (k : Int) (t : List UInt8) (lo hi : Int) (b : List UInt8) : Bool :=
  if chk k t lo hi = 0 then
    (if k = 2 then decide (b = t) else if k = 3 then gl t b else if k = 4 then
      (if t.length ≤ b.length ∧ b.take t.length = t then (if lo ≤ numV (b.drop t.length) then decide (numV (b.drop t.length) ≤ hi) else false) else false)
     else true)
  else false
set_option maxHeartbeats 4000000 in
theorem f24 (k : Int) (t : List UInt8) (lo hi : Int) (b : List UInt8) (ht : t.length ≤ 1000000000000) (hb : b.length ≤ 1000000000000) :
    call T 24 [.agg [.int .i64 k, .str t, .int .i64 lo, .int .i64 hi], .byt b .no] [] 0 = some ⟨.bool (alw k t lo hi b), [], []⟩ := by
  rw [call_code T_24]
  have h := f14 k t lo hi ht
  unfold alw
  by_cases c0 : chk k t lo hi = 0
  · by_cases c2 : k = 2
    · subst c2
      by_cases c3 : b = t
      · simp only [r24_0, r24_1, r24_2, r24_3, r24_4, r24_5, r24_6, r24_7, r24_8, r24_9, r24_10, r24_11, r24_12, F24, q24, go_sem, UInt8.reduceLT, UInt8.reduceLE, Int.reduceToNat, Int.reduceLE, Int.reduceLT, Int.reduceEq, Int.reduceNe, Int.reduceNeg, Int.reduceAdd, Int.reduceSub, Int.reduceMul, Nat.reducePow, Nat.reduceDiv, Nat.reduceMod, Nat.reduceAdd, Nat.reduceSub, Nat.reduceMul, Nat.reduceLT, Nat.reduceLeDiff, Nat.reduceEqDiff, Nat.reduceBEq, reduceCtorEq, reduceIte, h, S_14, c0, c3]
      · simp only [r24_0, r24_1, r24_2, r24_3, r24_4, r24_5, r24_6, r24_7, r24_8, r24_9, r24_10, r24_11, r24_12, F24, q24, go_sem, UInt8.reduceLT, UInt8.reduceLE, Int.reduceToNat, Int.reduceLE, Int.reduceLT, Int.reduceEq, Int.reduceNe, Int.reduceNeg, Int.reduceAdd, Int.reduceSub, Int.reduceMul, Nat.reducePow, Nat.reduceDiv, Nat.reduceMod, Nat.reduceAdd, Nat.reduceSub, Nat.reduceMul, Nat.reduceLT, Nat.reduceLeDiff, Nat.reduceEqDiff, Nat.reduceBEq, reduceCtorEq, reduceIte, h, S_14, c0, c3]
    by_cases c3 : k = 3
    · subst c3
      simp only [r24_0, r24_1, r24_2, r24_3, r24_4, r24_5, r24_6, r24_7, r24_8, r24_9, r24_10, r24_11, r24_12, F24, q24, go_sem, UInt8.reduceLT, UInt8.reduceLE, Int.reduceToNat, Int.reduceLE, Int.reduceLT, Int.reduceEq, Int.reduceNe, Int.reduceNeg, Int.reduceAdd, Int.reduceSub, Int.reduceMul, Nat.reducePow, Nat.reduceDiv, Nat.reduceMod, Nat.reduceAdd, Nat.reduceSub, Nat.reduceMul, Nat.reduceLT, Nat.reduceLeDiff, Nat.reduceEqDiff, Nat.reduceBEq, reduceCtorEq, reduceIte, h, S_14, c0, f20 t b ht hb, S_20]
    by_cases c4 : k = 4
    · subst c4
      have hn := f30 (b.drop t.length) (by rw [List.length_drop]; omega)
      by_cases c5 : t.length ≤ b.length ∧ b.take t.length = t
      · by_cases c6 : lo ≤ numV (b.drop t.length)
        · simp only [r24_0, r24_1, r24_2, r24_3, r24_4, r24_5, r24_6, r24_7, r24_8, r24_9, r24_10, r24_11, r24_12, F24, q24, go_sem, UInt8.reduceLT, UInt8.reduceLE, Int.reduceToNat, Int.reduceLE, Int.reduceLT, Int.reduceEq, Int.reduceNe, Int.reduceNeg, Int.reduceAdd, Int.reduceSub, Int.reduceMul, Nat.reducePow, Nat.reduceDiv, Nat.reduceMod, Nat.reduceAdd, Nat.reduceSub, Nat.reduceMul, Nat.reduceLT, Nat.reduceLeDiff, Nat.reduceEqDiff, Nat.reduceBEq, reduceCtorEq, reduceIte, h, S_14, c0, f29, S_29, c5, hn, S_30, c6]
        · simp only [r24_0, r24_1, r24_2, r24_3, r24_4, r24_5, r24_6, r24_7, r24_8, r24_9, r24_10, r24_11, r24_12, F24, q24, go_sem, UInt8.reduceLT, UInt8.reduceLE, Int.reduceToNat, Int.reduceLE, Int.reduceLT, Int.reduceEq, Int.reduceNe, Int.reduceNeg, Int.reduceAdd, Int.reduceSub, Int.reduceMul, Nat.reducePow, Nat.reduceDiv, Nat.reduceMod, Nat.reduceAdd, Nat.reduceSub, Nat.reduceMul, Nat.reduceLT, Nat.reduceLeDiff, Nat.reduceEqDiff, Nat.reduceBEq, reduceCtorEq, reduceIte, h, S_14, c0, f29, S_29, c5, hn, S_30, c6]
      · simp only [r24_0, r24_1, r24_2, r24_3, r24_4, r24_5, r24_6, r24_7, r24_8, r24_9, r24_10, r24_11, r24_12, F24, q24, go_sem, UInt8.reduceLT, UInt8.reduceLE, Int.reduceToNat, Int.reduceLE, Int.reduceLT, Int.reduceEq, Int.reduceNe, Int.reduceNeg, Int.reduceAdd, Int.reduceSub, Int.reduceMul, Nat.reducePow, Nat.reduceDiv, Nat.reduceMod, Nat.reduceAdd, Nat.reduceSub, Nat.reduceMul, Nat.reduceLT, Nat.reduceLeDiff, Nat.reduceEqDiff, Nat.reduceBEq, reduceCtorEq, reduceIte, h, S_14, c0, f29, S_29, c5, f30 b hb, S_30]
    · simp only [r24_0, r24_1, r24_2, r24_3, r24_4, r24_5, r24_6, r24_7, r24_8, r24_9, r24_10, r24_11, r24_12, F24, q24, go_sem, UInt8.reduceLT, UInt8.reduceLE, Int.reduceToNat, Int.reduceLE, Int.reduceLT, Int.reduceEq, Int.reduceNe, Int.reduceNeg, Int.reduceAdd, Int.reduceSub, Int.reduceMul, Nat.reducePow, Nat.reduceDiv, Nat.reduceMod, Nat.reduceAdd, Nat.reduceSub, Nat.reduceMul, Nat.reduceLT, Nat.reduceLeDiff, Nat.reduceEqDiff, Nat.reduceBEq, reduceCtorEq, reduceIte, h, S_14, c0, c2, c3, c4]
  · simp only [r24_0, r24_1, r24_2, r24_3, r24_4, r24_5, r24_6, r24_7, r24_8, r24_9, r24_10, r24_11, r24_12, F24, q24, go_sem, UInt8.reduceLT, UInt8.reduceLE, Int.reduceToNat, Int.reduceLE, Int.reduceLT, Int.reduceEq, Int.reduceNe, Int.reduceNeg, Int.reduceAdd, Int.reduceSub, Int.reduceMul, Nat.reducePow, Nat.reduceDiv, Nat.reduceMod, Nat.reduceAdd, Nat.reduceSub, Nat.reduceMul, Nat.reduceLT, Nat.reduceLeDiff, Nat.reduceEqDiff, Nat.reduceBEq, reduceCtorEq, reduceIte, h, S_14, c0]
set_option maxHeartbeats 4000000 in
theorem f10 : call T 10 [] [] 0 = some ⟨.bool true, [], []⟩ := by
  rw [call_code T_10]
  have a1 := f20 [97, 42, 99, 63] [97, 98, 99, 100] (by simp) (by simp)
  have a2 := f20 [97, 42, 99, 63] [97, 99, 100] (by simp) (by simp)
  have a3 := f20 [97, 42, 99, 63] [97, 99] (by simp) (by simp)
  have a4 := f14 4 [99, 111, 117, 110, 116, 61] 3 10 (by simp)
  have a5 := f24 4 [99, 111, 117, 110, 116, 61] 3 10 [99, 111, 117, 110, 116, 61, 49, 48] (by simp) (by simp)
  have a6 := f24 4 [99, 111, 117, 110, 116, 61] 3 10 [99, 111, 117, 110, 116, 61, 48, 51] (by simp) (by simp)
  have a7 := f24 4 [99, 111, 117, 110, 116, 61] 3 10 [99, 111, 117, 110, 116, 61, 49, 49] (by simp) (by simp)
  have a8 := f24 4 [99, 111, 117, 110, 116, 61] 3 10 [99, 111, 117, 110, 116, 61] (by simp) (by simp)
  rw [show gl [97, 42, 99, 63] [97, 98, 99, 100] = true from by decide] at a1
  rw [show gl [97, 42, 99, 63] [97, 99, 100] = true from by decide] at a2
  rw [show gl [97, 42, 99, 63] [97, 99] = false from by decide] at a3
  rw [show chk 4 [99, 111, 117, 110, 116, 61] 3 10 = 0 from by decide] at a4
  rw [show alw 4 [99, 111, 117, 110, 116, 61] 3 10 [99, 111, 117, 110, 116, 61, 49, 48] = true from by decide] at a5
  rw [show alw 4 [99, 111, 117, 110, 116, 61] 3 10 [99, 111, 117, 110, 116, 61, 48, 51] = false from by decide] at a6
  rw [show alw 4 [99, 111, 117, 110, 116, 61] 3 10 [99, 111, 117, 110, 116, 61, 49, 49] = false from by decide] at a7
  rw [show alw 4 [99, 111, 117, 110, 116, 61] 3 10 [99, 111, 117, 110, 116, 61] = false from by decide] at a8
  simp only [r10_0, r10_1, r10_2, F10, q10, go_sem, UInt8.reduceLT, UInt8.reduceLE, Int.reduceToNat, Int.reduceLE, Int.reduceLT, Int.reduceEq, Int.reduceNe, Int.reduceNeg, Int.reduceAdd, Int.reduceSub, Int.reduceMul, Nat.reducePow, Nat.reduceDiv, Nat.reduceMod, Nat.reduceAdd, Nat.reduceSub, Nat.reduceMul, Nat.reduceLT, Nat.reduceLeDiff, Nat.reduceEqDiff, Nat.reduceBEq, reduceCtorEq, reduceIte, a1, a2, a3, a4, a5, a6, a7, a8, S_20, S_14, S_24]
end Go.Proofs.YtmekdaifojaoiaaDoor
