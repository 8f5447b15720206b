/-
  Glob; patterns and lines that are drawn.
-/
import Derived.Test.YtmekdaifojaoiaaDoorC
set_option maxRecDepth 100000
set_option linter.unusedSimpArgs false
set_option linter.unusedVariables false
namespace Go.Proofs.YtmekdaifojaoiaaDoor
open Go.Sy Go.Glob

theorem f20 (P L : List UInt8) (hP : P.length ≤ 1000000000000) (hL : L.length ≤ 1000000000000) : call T 20 [.str P, .byt L .no] [] 0 = some ⟨.bool (gl P L), [], []⟩ := by
  rw [call_code T_20]
  have h := l20 P L hP hL (gl P L) 0 0 0 0 (-1) rfl (Inv.init P L)
  simp only [Int.natCast_zero] at h
  rcases h with ⟨q, hq, hs, h⟩ | ⟨hB, h⟩
  · have hd : (P.drop q).length < 9223372036854775807 := by rw [List.length_drop]; omega
    have ht := trim_all (P.drop q)
    rw [hs] at ht
    simp only [r20_0, r20_1, r20_2, r20_3, r20_4, r20_5, r20_6, r20_7, r20_8, r20_9, r20_11, F20, q20_10, q20, go_sem, UInt8.reduceLT, UInt8.reduceLE, Int.reduceToNat, Int.reduceLE, Int.reduceLT, Int.reduceEq, Int.reduceNe, Int.reduceNeg, Int.reduceAdd, Int.reduceSub, Int.reduceMul, Nat.reducePow, Nat.reduceDiv, Nat.reduceMod, Nat.reduceAdd, Nat.reduceSub, Nat.reduceMul, Nat.reduceLT, Nat.reduceLeDiff, Nat.reduceEqDiff, Nat.reduceBEq, reduceCtorEq, reduceIte, h, hq, List.take_length, f28 _ hd, S_28, ht]
    cases gl P L <;> rfl
  · simp only [r20_0, r20_1, r20_2, r20_3, r20_4, r20_5, r20_6, r20_7, r20_8, r20_9, r20_11, F20, q20_10, q20, go_sem, UInt8.reduceLT, UInt8.reduceLE, Int.reduceToNat, Int.reduceLE, Int.reduceLT, Int.reduceEq, Int.reduceNe, Int.reduceNeg, Int.reduceAdd, Int.reduceSub, Int.reduceMul, Nat.reducePow, Nat.reduceDiv, Nat.reduceMod, Nat.reduceAdd, Nat.reduceSub, Nat.reduceMul, Nat.reduceLT, Nat.reduceLeDiff, Nat.reduceEqDiff, Nat.reduceBEq, reduceCtorEq, reduceIte, h, hB]
end Go.Proofs.YtmekdaifojaoiaaDoor
