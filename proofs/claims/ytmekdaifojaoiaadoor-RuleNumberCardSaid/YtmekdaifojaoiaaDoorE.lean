/-
  Rules: what is checked of them.
-/
import Derived.Test.YtmekdaifojaoiaaDoorD
set_option maxRecDepth 100000
set_option linter.unusedSimpArgs false
set_option linter.unusedVariables false
namespace Go.Proofs.YtmekdaifojaoiaaDoor
open Go.Sy Go.Glob

def prn : List UInt8 → Bool
  | [] => true
  | c :: r => if c < 32 then false else if 126 < c then false else prn r
def chk (k : Int) (t : List UInt8) (lo hi : Int) : Int :=
  if k < 1 then 1 else if 4 < k then 1 else if prn t then
    (if k = 4 then (if lo < 0 then 1 else if hi < lo then 1 else if 1000000000 < hi then 1 else if 32 < t.length then 4 else 0)
     else if lo = 0 then (if hi = 0 then (if k = 1 then (if t = [] then 0 else 1) else if 32 < t.length then 4 else 0) else 1) else 1)
  else 1
def ruleO (k : Int) (t : List UInt8) (lo hi : Int) : SObj := .rc [.int .i64 k, .str t, .int .i64 lo, .int .i64 hi]
def ruleV (k : Int) (t : List UInt8) (lo hi : Int) : SV := .agg [.int .i64 k, .str t, .int .i64 lo, .int .i64 hi]
theorem l14 (k : Int) (t : List UInt8) (lo hi : Int) (hl : t.length ≤ 1000000000000) : ∀ (n i : Nat), t.length - i = n → i ≤ t.length →
    run T (.loop r14_10) ⟨[(1, .ptr 101 0), (15, .int .i64 t.length), (16, .int .i64 i)], [(101, .rc [.int .i64 k, .str t, .int .i64 lo, .int .i64 hi])], []⟩ =
    if prn (t.drop i) then some (.x 0, ⟨[(1, .ptr 101 0)], [(101, .rc [.int .i64 k, .str t, .int .i64 lo, .int .i64 hi])], []⟩)
    else some (.r, ⟨[(2, .int .i64 1)], [(101, .rc [.int .i64 k, .str t, .int .i64 lo, .int .i64 hi])], []⟩) := by
  intro n
  induction n with
  | zero =>
    intro i h0 h1
    have hi : i = t.length := by omega
    subst hi
    rw [run_loop]
    simp only [r14_0, r14_1, r14_2, r14_3, r14_4, r14_5, r14_6, r14_7, r14_8, r14_9, r14_11, r14_12, r14_13, r14_14, r14_15, r14_16, r14_17, r14_18, r14_19, F14, q14_10, q14, go_sem, UInt8.reduceLT, UInt8.reduceLE, Int.reduceToNat, Int.reduceLE, Int.reduceLT, Int.reduceEq, Int.reduceNe, Int.reduceNeg, Int.reduceAdd, Int.reduceSub, Int.reduceMul, Nat.reducePow, Nat.reduceDiv, Nat.reduceMod, Nat.reduceAdd, Nat.reduceSub, Nat.reduceMul, Nat.reduceLT, Nat.reduceLeDiff, Nat.reduceEqDiff, Nat.reduceBEq, reduceCtorEq, reduceIte, List.drop_length, prn]
  | succ n ih =>
    intro i h0 h1
    have hi : i < t.length := by omega
    have e1 := wsucc i (by omega)
    have ih' := ih (i + 1) (by omega) (by omega)
    rw [run_loop, drop_cons0 t i hi]
    by_cases h2 : t.getD i 0 < 32
    · simp only [r14_0, r14_1, r14_2, r14_3, r14_4, r14_5, r14_6, r14_7, r14_8, r14_9, r14_11, r14_12, r14_13, r14_14, r14_15, r14_16, r14_17, r14_18, r14_19, F14, q14_10, q14, go_sem, UInt8.reduceLT, UInt8.reduceLE, Int.reduceToNat, Int.reduceLE, Int.reduceLT, Int.reduceEq, Int.reduceNe, Int.reduceNeg, Int.reduceAdd, Int.reduceSub, Int.reduceMul, Nat.reducePow, Nat.reduceDiv, Nat.reduceMod, Nat.reduceAdd, Nat.reduceSub, Nat.reduceMul, Nat.reduceLT, Nat.reduceLeDiff, Nat.reduceEqDiff, Nat.reduceBEq, reduceCtorEq, reduceIte, hi, e1, prn, h2]
    · by_cases h3 : 126 < t.getD i 0
      · simp only [r14_0, r14_1, r14_2, r14_3, r14_4, r14_5, r14_6, r14_7, r14_8, r14_9, r14_11, r14_12, r14_13, r14_14, r14_15, r14_16, r14_17, r14_18, r14_19, F14, q14_10, q14, go_sem, UInt8.reduceLT, UInt8.reduceLE, Int.reduceToNat, Int.reduceLE, Int.reduceLT, Int.reduceEq, Int.reduceNe, Int.reduceNeg, Int.reduceAdd, Int.reduceSub, Int.reduceMul, Nat.reducePow, Nat.reduceDiv, Nat.reduceMod, Nat.reduceAdd, Nat.reduceSub, Nat.reduceMul, Nat.reduceLT, Nat.reduceLeDiff, Nat.reduceEqDiff, Nat.reduceBEq, reduceCtorEq, reduceIte, hi, e1, prn, h2, h3]
      · simp only [r14_0, r14_1, r14_2, r14_3, r14_4, r14_5, r14_6, r14_7, r14_8, r14_9, r14_11, r14_12, r14_13, r14_14, r14_15, r14_16, r14_17, r14_18, r14_19, F14, q14_10, q14, go_sem, UInt8.reduceLT, UInt8.reduceLE, Int.reduceToNat, Int.reduceLE, Int.reduceLT, Int.reduceEq, Int.reduceNe, Int.reduceNeg, Int.reduceAdd, Int.reduceSub, Int.reduceMul, Nat.reducePow, Nat.reduceDiv, Nat.reduceMod, Nat.reduceAdd, Nat.reduceSub, Nat.reduceMul, Nat.reduceLT, Nat.reduceLeDiff, Nat.reduceEqDiff, Nat.reduceBEq, reduceCtorEq, reduceIte, hi, e1, prn, h2, h3, ih']
theorem l15 (k : Int) (t : List UInt8) (lo hi : Int) (hl : t.length ≤ 1000000000000) : ∀ (n i : Nat), t.length - i = n → i ≤ t.length →
    run T (.loop r15_8) ⟨[(1, .ptr 101 0), (3, .int .i64 i)], [(101, .rc [.int .i64 k, .str t, .int .i64 lo, .int .i64 hi])], []⟩ =
    if prn (t.drop i) then some (.x 0, ⟨[(1, .ptr 101 0)], [(101, .rc [.int .i64 k, .str t, .int .i64 lo, .int .i64 hi])], []⟩)
    else some (.r, ⟨[(2, .int .i64 1)], [(101, .rc [.int .i64 k, .str t, .int .i64 lo, .int .i64 hi])], []⟩) := by
  intro n
  induction n with
  | zero =>
    intro i h0 h1
    have hi : i = t.length := by omega
    subst hi
    rw [run_loop]
    simp only [r15_0, r15_1, r15_2, r15_3, r15_4, r15_5, r15_6, r15_7, r15_9, r15_10, r15_11, r15_12, r15_13, r15_14, r15_15, r15_16, r15_17, r15_18, F15, q15_8, q15, go_sem, UInt8.reduceLT, UInt8.reduceLE, Int.reduceToNat, Int.reduceLE, Int.reduceLT, Int.reduceEq, Int.reduceNe, Int.reduceNeg, Int.reduceAdd, Int.reduceSub, Int.reduceMul, Nat.reducePow, Nat.reduceDiv, Nat.reduceMod, Nat.reduceAdd, Nat.reduceSub, Nat.reduceMul, Nat.reduceLT, Nat.reduceLeDiff, Nat.reduceEqDiff, Nat.reduceBEq, reduceCtorEq, reduceIte, List.drop_length, prn]
  | succ n ih =>
    intro i h0 h1
    have hi : i < t.length := by omega
    have e1 := wsucc i (by omega)
    have ih' := ih (i + 1) (by omega) (by omega)
    rw [run_loop, drop_cons0 t i hi]
    by_cases h2 : t.getD i 0 < 32
    · simp only [r15_0, r15_1, r15_2, r15_3, r15_4, r15_5, r15_6, r15_7, r15_9, r15_10, r15_11, r15_12, r15_13, r15_14, r15_15, r15_16, r15_17, r15_18, F15, q15_8, q15, go_sem, UInt8.reduceLT, UInt8.reduceLE, Int.reduceToNat, Int.reduceLE, Int.reduceLT, Int.reduceEq, Int.reduceNe, Int.reduceNeg, Int.reduceAdd, Int.reduceSub, Int.reduceMul, Nat.reducePow, Nat.reduceDiv, Nat.reduceMod, Nat.reduceAdd, Nat.reduceSub, Nat.reduceMul, Nat.reduceLT, Nat.reduceLeDiff, Nat.reduceEqDiff, Nat.reduceBEq, reduceCtorEq, reduceIte, hi, e1, prn, h2]
    · by_cases h3 : 126 < t.getD i 0
      · simp only [r15_0, r15_1, r15_2, r15_3, r15_4, r15_5, r15_6, r15_7, r15_9, r15_10, r15_11, r15_12, r15_13, r15_14, r15_15, r15_16, r15_17, r15_18, F15, q15_8, q15, go_sem, UInt8.reduceLT, UInt8.reduceLE, Int.reduceToNat, Int.reduceLE, Int.reduceLT, Int.reduceEq, Int.reduceNe, Int.reduceNeg, Int.reduceAdd, Int.reduceSub, Int.reduceMul, Nat.reducePow, Nat.reduceDiv, Nat.reduceMod, Nat.reduceAdd, Nat.reduceSub, Nat.reduceMul, Nat.reduceLT, Nat.reduceLeDiff, Nat.reduceEqDiff, Nat.reduceBEq, reduceCtorEq, reduceIte, hi, e1, prn, h2, h3]
      · simp only [r15_0, r15_1, r15_2, r15_3, r15_4, r15_5, r15_6, r15_7, r15_9, r15_10, r15_11, r15_12, r15_13, r15_14, r15_15, r15_16, r15_17, r15_18, F15, q15_8, q15, go_sem, UInt8.reduceLT, UInt8.reduceLE, Int.reduceToNat, Int.reduceLE, Int.reduceLT, Int.reduceEq, Int.reduceNe, Int.reduceNeg, Int.reduceAdd, Int.reduceSub, Int.reduceMul, Nat.reducePow, Nat.reduceDiv, Nat.reduceMod, Nat.reduceAdd, Nat.reduceSub, Nat.reduceMul, Nat.reduceLT, Nat.reduceLeDiff, Nat.reduceEqDiff, Nat.reduceBEq, reduceCtorEq, reduceIte, hi, e1, prn, h2, h3, ih']
end Go.Proofs.YtmekdaifojaoiaaDoor
