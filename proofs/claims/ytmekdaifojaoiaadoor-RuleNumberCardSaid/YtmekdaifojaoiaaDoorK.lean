/-
  Rules and lines of a configuration that are drawn; RuleCheck.
-/
import Derived.Test.YtmekdaifojaoiaaDoorM
set_option maxRecDepth 100000
set_option linter.unusedSimpArgs false
set_option linter.unusedVariables false
namespace Go.Proofs.YtmekdaifojaoiaaDoor
open Go.Sy Go.Glob

def lineT : Nat → List UInt8
  | 0 => [97, 61, 49]
  | 1 => [99, 111, 117, 110, 116, 61, 53]
  | 2 => [99, 111, 117, 110, 116, 61, 49, 55]
  | 3 => [104, 111, 115, 116, 61, 120]
  | 4 => [109, 111, 100, 101, 32, 98]
  | _ => [126]
def globT : Nat → List UInt8
  | 0 => []
  | 1 => [42]
  | 2 => [97, 61, 63]
  | 3 => [42, 61, 42]
  | 4 => [63, 111, 42, 53]
  | 5 => [99, 111, 117, 110, 116, 61, 63, 63]
  | _ => [42, 97, 42, 42, 49, 42]
def numT : Nat → List UInt8
  | 0 => [99, 111, 117, 110, 116, 61]
  | 1 => [97, 61]
  | _ => []
theorem lineT_ok : ∀ v, v < 6 → chk 2 (lineT v) 0 0 = 0 ∧ (lineT v).length ≤ 20 := by decide
theorem globT_ok : ∀ v, v < 7 → chk 3 (globT v) 0 0 = 0 ∧ (globT v).length ≤ 20 := by decide
theorem numT_ok : ∀ v, v < 3 → prn (numT v) = true ∧ (numT v).length ≤ 20 := by decide
theorem cz0 : ((0 : Nat) : Int) = 0 := rfl
theorem cz1 : ((1 : Nat) : Int) = 1 := rfl
theorem cz2 : ((2 : Nat) : Int) = 2 := rfl
theorem cz3 : ((3 : Nat) : Int) = 3 := rfl
theorem cz4 : ((4 : Nat) : Int) = 4 := rfl
theorem cz5 : ((5 : Nat) : Int) = 5 := rfl
theorem cz6 : ((6 : Nat) : Int) = 6 := rfl
theorem cz7 : ((7 : Nat) : Int) = 7 := rfl
set_option maxHeartbeats 4000000 in
theorem f23 (B : List UInt8) (i : Nat) (hB : B.length ≤ 1000) : call T 23 [.ptr 0 0] [codesO B i] 0 = some ⟨.byt (lineT (nextV B i 6)) .no, [(0, codesO B (nextA B i))], []⟩ := by
  rw [call_code T_23]
  have g := f22 B i 6 (by omega) (by omega)
  have hm := nextV_lt B i 6 (by omega)
  rw [cz6] at g
  generalize nextV B i 6 = v at g hm
  simp only [codesO] at g
  have : v = 0 ∨ v = 1 ∨ v = 2 ∨ v = 3 ∨ v = 4 ∨ v = 5 := by omega
  rcases this with rfl | rfl | rfl | rfl | rfl | rfl <;> simp only [cz0, cz1, cz2, cz3, cz4, cz5] at g <;> simp only [r23_0, r23_1, r23_2, F23, q23, go_sem, UInt8.reduceLT, UInt8.reduceLE, Int.reduceToNat, Int.reduceLE, Int.reduceLT, Int.reduceEq, Int.reduceNe, Int.reduceNeg, Int.reduceAdd, Int.reduceSub, Int.reduceMul, Nat.reducePow, Nat.reduceDiv, Nat.reduceMod, Nat.reduceAdd, Nat.reduceSub, Nat.reduceMul, Nat.reduceLT, Nat.reduceLeDiff, Nat.reduceEqDiff, Nat.reduceBEq, reduceCtorEq, reduceIte, List.all_replicate, cz0, cz1, cz2, cz3, cz4, cz5, cz6, cz7, codesO, g, S_22, lineT]
theorem chk_num (t : List UInt8) (ht : prn t = true) (hl : t.length ≤ 20) (a b : Nat) (ha : a < 1000) (hb : b < 1000) : chk 4 t a ((a : Int) + b) = 0 := by
  unfold chk
  rw [if_neg (by omega), if_neg (by omega), if_pos ht, if_pos rfl, if_neg (by omega), if_neg (by omega), if_neg (by omega), if_neg (by omega)]
set_option maxHeartbeats 8000000 in
theorem f13 (B : List UInt8) (i : Nat) (hB : B.length ≤ 1000) : ∃ (k : Int) (t : List UInt8) (lo hi : Int) (j : Nat), chk k t lo hi = 0 ∧ t.length ≤ 20 ∧
    call T 13 [.ptr 0 0] [codesO B i] 0 = some ⟨.agg [.int .i64 k, .str t, .int .i64 lo, .int .i64 hi], [(0, codesO B j)], []⟩ := by
  rw [call_code T_13]
  have g := f22 B i 5 (by omega) (by omega)
  have hm := nextV_lt B i 5 (by omega)
  rw [cz5] at g
  generalize nextV B i 5 = v at g hm
  simp only [codesO] at g
  have hv : v = 0 ∨ v = 1 ∨ v = 2 ∨ v = 3 ∨ v = 4 := by omega
  generalize nextA B i = i1 at g
  have g7 := f22 B i1 7 (by omega) (by omega)
  have h7 := nextV_lt B i1 7 (by omega)
  have g20 := f22 B i1 20 (by omega) (by omega)
  have h20 := nextV_lt B i1 20 (by omega)
  have g3 := f22 B (nextA B i1) 3 (by omega) (by omega)
  have h3 := nextV_lt B (nextA B i1) 3 (by omega)
  have g30 := f22 B (nextA B (nextA B i1)) 30 (by omega) (by omega)
  have h30 := nextV_lt B (nextA B (nextA B i1)) 30 (by omega)
  have hl := f23 B i1 hB
  have h6 := nextV_lt B i1 6 (by omega)
  simp only [codesO] at g7 g20 g3 g30 hl
  have c20 : ((20 : Nat) : Int) = 20 := rfl
  have c30 : ((30 : Nat) : Int) = 30 := rfl
  rw [cz7] at g7
  rw [c20] at g20
  rw [cz3] at g3
  rw [c30] at g30
  generalize nextV B i1 6 = v6 at *
  generalize nextV B i1 7 = v7 at *
  generalize nextV B i1 20 = v20 at *
  generalize nextV B (nextA B i1) 3 = v3 at *
  generalize nextV B (nextA B (nextA B i1)) 30 = v30 at *
  have hN : v = 3 ∨ v = 4 → ∃ (k : Int) (t : List UInt8) (lo hi : Int) (j : Nat), chk k t lo hi = 0 ∧ t.length ≤ 20 ∧
      call T 13 [.ptr 0 0] [codesO B i] 0 = some ⟨.agg [.int .i64 k, .str t, .int .i64 lo, .int .i64 hi], [(0, codesO B j)], []⟩ := by
    intro hv
    refine ⟨4, numT v3, v20, (v20 : Int) + v30, nextA B (nextA B (nextA B i1)), chk_num _ (numT_ok _ h3).1 (numT_ok _ h3).2 _ _ (by omega) (by omega), (numT_ok _ h3).2, ?_⟩
    have e : IntKind.i64.wrap ((v20 : Int) + (v30 : Int)) = (v20 : Int) + v30 := w64 (by omega) (by omega)
    rw [call_code T_13]
    have : v3 = 0 ∨ v3 = 1 ∨ v3 = 2 := by omega
    rcases hv with rfl | rfl <;> rcases this with rfl | rfl | rfl <;> simp only [cz0, cz1, cz2, cz3, cz4] at g g3 <;> simp only [r13_0, r13_1, r13_2, r13_3, r13_4, r13_5, r13_6, r13_7, r13_8, r13_9, r13_10, F13, q13, go_sem, UInt8.reduceLT, UInt8.reduceLE, Int.reduceToNat, Int.reduceLE, Int.reduceLT, Int.reduceEq, Int.reduceNe, Int.reduceNeg, Int.reduceAdd, Int.reduceSub, Int.reduceMul, Nat.reducePow, Nat.reduceDiv, Nat.reduceMod, Nat.reduceAdd, Nat.reduceSub, Nat.reduceMul, Nat.reduceLT, Nat.reduceLeDiff, Nat.reduceEqDiff, Nat.reduceBEq, reduceCtorEq, reduceIte, List.all_replicate, cz0, cz1, cz2, cz3, cz4, cz5, cz6, cz7, codesO, g, g20, g3, g30, S_22, e, numT]
  rcases hv with rfl | rfl | rfl | rfl | rfl
  · refine ⟨1, [], 0, 0, i1, by decide, by decide, ?_⟩
    simp only [cz0] at g
    simp only [r13_0, r13_1, r13_2, r13_3, r13_4, r13_5, r13_6, r13_7, r13_8, r13_9, r13_10, F13, q13, go_sem, UInt8.reduceLT, UInt8.reduceLE, Int.reduceToNat, Int.reduceLE, Int.reduceLT, Int.reduceEq, Int.reduceNe, Int.reduceNeg, Int.reduceAdd, Int.reduceSub, Int.reduceMul, Nat.reducePow, Nat.reduceDiv, Nat.reduceMod, Nat.reduceAdd, Nat.reduceSub, Nat.reduceMul, Nat.reduceLT, Nat.reduceLeDiff, Nat.reduceEqDiff, Nat.reduceBEq, reduceCtorEq, reduceIte, List.all_replicate, cz0, cz1, cz2, cz3, cz4, cz5, cz6, cz7, codesO, g, S_22]
  · refine ⟨2, lineT v6, 0, 0, nextA B i1, (lineT_ok _ h6).1, (lineT_ok _ h6).2, ?_⟩
    simp only [cz1] at g
    simp only [r13_0, r13_1, r13_2, r13_3, r13_4, r13_5, r13_6, r13_7, r13_8, r13_9, r13_10, F13, q13, go_sem, UInt8.reduceLT, UInt8.reduceLE, Int.reduceToNat, Int.reduceLE, Int.reduceLT, Int.reduceEq, Int.reduceNe, Int.reduceNeg, Int.reduceAdd, Int.reduceSub, Int.reduceMul, Nat.reducePow, Nat.reduceDiv, Nat.reduceMod, Nat.reduceAdd, Nat.reduceSub, Nat.reduceMul, Nat.reduceLT, Nat.reduceLeDiff, Nat.reduceEqDiff, Nat.reduceBEq, reduceCtorEq, reduceIte, List.all_replicate, cz0, cz1, cz2, cz3, cz4, cz5, cz6, cz7, codesO, g, S_22, hl, S_23]
  · refine ⟨3, globT v7, 0, 0, nextA B i1, (globT_ok _ h7).1, (globT_ok _ h7).2, ?_⟩
    simp only [cz2] at g
    have : v7 = 0 ∨ v7 = 1 ∨ v7 = 2 ∨ v7 = 3 ∨ v7 = 4 ∨ v7 = 5 ∨ v7 = 6 := by omega
    rcases this with rfl | rfl | rfl | rfl | rfl | rfl | rfl <;> simp only [cz0, cz1, cz2, cz3, cz4, cz5, cz6] at g7 <;> simp only [r13_0, r13_1, r13_2, r13_3, r13_4, r13_5, r13_6, r13_7, r13_8, r13_9, r13_10, F13, q13, go_sem, UInt8.reduceLT, UInt8.reduceLE, Int.reduceToNat, Int.reduceLE, Int.reduceLT, Int.reduceEq, Int.reduceNe, Int.reduceNeg, Int.reduceAdd, Int.reduceSub, Int.reduceMul, Nat.reducePow, Nat.reduceDiv, Nat.reduceMod, Nat.reduceAdd, Nat.reduceSub, Nat.reduceMul, Nat.reduceLT, Nat.reduceLeDiff, Nat.reduceEqDiff, Nat.reduceBEq, reduceCtorEq, reduceIte, List.all_replicate, cz0, cz1, cz2, cz3, cz4, cz5, cz6, cz7, codesO, g, g7, S_22, globT]
  · rw [← call_code T_13]; exact hN (.inl rfl)
  · rw [← call_code T_13]; exact hN (.inr rfl)
set_option maxHeartbeats 8000000 in
theorem f3 (k : Int) (t : List UInt8) (lo hi : Int) (C : List UInt8) (w n : Int) (hw1 : -9223372036854775808 ≤ w) (hw2 : w ≤ 9223372036854775807) (hn1 : -9223372036854775808 ≤ n) (hn2 : n ≤ 9223372036854775807) :
    call T 3 [.agg [.int .i64 k, .str t, .int .i64 lo, .int .i64 hi], .byt C .no, .int .i64 w, .int .i64 n] [] 0 = some ⟨.bool true, [], []⟩ := by
  rw [call_code T_3]
  have g1 := f11 t 60
  have g2 := f12 C 10
  obtain ⟨k', t', lo', hi', j, hc, ht', g3⟩ := f13 (C.take 10) 0 (by rw [List.length_take]; omega)
  have ht : (t.take 60).length ≤ 60 := by rw [List.length_take]; omega
  generalize t.take 60 = u at *
  have c60 : ((60 : Nat) : Int) = 60 := rfl
  have c10 : ((10 : Nat) : Int) = 10 := rfl
  rw [c60] at g1
  rw [c10] at g2
  have g4 := f16 w 5 hw1 hw2 (by omega)
  obtain ⟨v, hv, hv4⟩ := modI_nat w 4
  rw [show ((4 + 1 : Nat) : Int) = 5 from rfl] at hv
  rw [hv] at g4
  have g5 := f16 n 6 hn1 hn2 (by omega)
  have a1 := f14 k u lo hi (by omega)
  have a2 := f15 k u lo hi (by omega)
  have b1 := f14 k' t' lo' hi' (by omega)
  rw [hc] at b1
  have d1 := f14 (modI n 6) t' lo' hi' (by omega)
  have d2 := f15 (modI n 6) t' lo' hi' (by omega)
  have d3 := f14 k' u lo' hi' (by omega)
  have d4 := f15 k' u lo' hi' (by omega)
  have d5 := f14 k' t' lo hi' (by omega)
  have d6 := f15 k' t' lo hi' (by omega)
  have d7 := f14 k' t' lo' hi (by omega)
  have d8 := f15 k' t' lo' hi (by omega)
  have d9 := f14 k' t' hi' lo' (by omega)
  have d10 := f15 k' t' hi' lo' (by omega)
  simp only [codesO, Int.natCast_zero] at g2 g3
  have hv5 : v = 0 ∨ v = 1 ∨ v = 2 ∨ v = 3 ∨ v = 4 := by omega
  rcases hv5 with rfl | rfl | rfl | rfl | rfl <;> simp only [cz0, cz1, cz2, cz3, cz4] at g4 <;>
    simp only [r3_0, r3_1, r3_2, r3_3, r3_4, r3_5, r3_6, r3_7, r3_8, r3_9, r3_10, r3_11, r3_12, r3_13, r3_14, r3_15, r3_16, r3_17, F3, q3, go_sem, UInt8.reduceLT, UInt8.reduceLE, Int.reduceToNat, Int.reduceLE, Int.reduceLT, Int.reduceEq, Int.reduceNe, Int.reduceNeg, Int.reduceAdd, Int.reduceSub, Int.reduceMul, Nat.reducePow, Nat.reduceDiv, Nat.reduceMod, Nat.reduceAdd, Nat.reduceSub, Nat.reduceMul, Nat.reduceLT, Nat.reduceLeDiff, Nat.reduceEqDiff, Nat.reduceBEq, reduceCtorEq, reduceIte, f10, S_10, g1, S_11, g2, S_12, g3, S_13, g4, g5, S_16, a1, a2, b1, d1, d2, d3, d4, d5, d6, d7, d8, d9, d10, S_14, S_15]
end Go.Proofs.YtmekdaifojaoiaaDoor
