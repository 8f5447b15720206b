/-
  Numbers read, the whole.
-/
import Derived.Test.YtmekdaifojaoiaaDoorG
set_option maxRecDepth 100000
set_option linter.unusedSimpArgs false
set_option linter.unusedVariables false
namespace Go.Proofs.YtmekdaifojaoiaaDoor
open Go.Sy Go.Glob

set_option maxHeartbeats 4000000 in
theorem f47 (s : List UInt8) (h0 : s ≠ []) (hl : s.length ≤ 10) (hd : digs s = true) : call T 47 [.str s] [] 0 = some ⟨.tup [.int .i64 (num 0 s), .nili], [], []⟩ := by
  rw [call_code T_47]
  have h := l47 s s hl _ 0 0 rfl (by omega) (by simp [lim]) (by simpa using hd)
  simp only [Int.natCast_zero, List.drop_zero] at h
  cases s with
  | nil => exact absurd rfl h0
  | cons c r =>
    simp only [digs] at hd
    by_cases h2 : c < 48
    · rw [if_pos h2] at hd; cases hd
    rw [if_neg h2] at hd
    by_cases h3 : 57 < c
    · rw [if_pos h3] at hd; cases hd
    have h2' : 48 ≤ c.toNat := by simpa [UInt8.lt_iff_toNat_lt] using h2
    have h4 : ¬ c = 45 := by rintro rfl; simp at h2'
    have h5 : ¬ c = 43 := by rintro rfl; simp at h2'
    have h6 : (0 : Int) < (((c :: r).length : Nat) : Int) := by rw [List.length_cons]; omega
    have h7 : ¬ (10 : Int) ≤ (((c :: r).length : Nat) : Int) ∨ True := .inr trivial
    have h8 : (((c :: r).length : Nat) : Int) < 19 := by omega
    have h9 : List.getD (c :: r) 0 0 = c := rfl
    generalize hs : c :: r = s at *
    simp only [r47_0, r47_1, r47_2, r47_3, r47_4, r47_5, r47_6, r47_7, r47_8, r47_9, r47_10, r47_11, r47_12, r47_13, r47_14, r47_16, r47_17, r47_18, r47_19, r47_20, F47, q47_15, q47, go_sem, UInt8.reduceLT, UInt8.reduceLE, Int.reduceToNat, Int.reduceLE, Int.reduceLT, Int.reduceEq, Int.reduceNe, Int.reduceNeg, Int.reduceAdd, Int.reduceSub, Int.reduceMul, Nat.reducePow, Nat.reduceDiv, Nat.reduceMod, Nat.reduceAdd, Nat.reduceSub, Nat.reduceMul, Nat.reduceLT, Nat.reduceLeDiff, Nat.reduceEqDiff, Nat.reduceBEq, reduceCtorEq, reduceIte, h, h4, h5, h6, h8, h9]
theorem f41 (s : List UInt8) (h0 : s ≠ []) (hl : s.length ≤ 10) (hd : digs s = true) : call T 41 [.str s] [] 0 = some ⟨.tup [.int .i64 (num 0 s), .nili], [], []⟩ := by
  rw [call_code T_41]
  simp only [r41_0, r41_1, r41_2, r41_3, r41_4, F41, q41, go_sem, UInt8.reduceLT, UInt8.reduceLE, Int.reduceToNat, Int.reduceLE, Int.reduceLT, Int.reduceEq, Int.reduceNe, Int.reduceNeg, Int.reduceAdd, Int.reduceSub, Int.reduceMul, Nat.reducePow, Nat.reduceDiv, Nat.reduceMod, Nat.reduceAdd, Nat.reduceSub, Nat.reduceMul, Nat.reduceLT, Nat.reduceLeDiff, Nat.reduceEqDiff, Nat.reduceBEq, reduceCtorEq, reduceIte, f47 s h0 hl hd, S_47]
def numV (s : List UInt8) : Int := if s = [] then -1 else if 10 < s.length then -1 else if 1 < s.length ∧ s.getD 0 0 = 48 then -1 else if digs s then (num 0 s : Nat) else -1
theorem l30 (s : List UInt8) (hl : s.length ≤ 10) : ∀ (m i : Nat), s.length - i = m → i ≤ s.length →
    run T (.loop r30_9) ⟨[(0, .str s), (24, .int .i64 s.length), (25, .int .i64 i)], [], []⟩ = if digs (s.drop i) then some (.x 0, ⟨[(0, .str s)], [], []⟩) else some (.r, ⟨[(2, .int .i64 (-1))], [], []⟩) := by
  intro m
  induction m with
  | zero =>
    intro i h0 h1
    have hi : i = s.length := by omega
    subst hi
    rw [run_loop]
    simp only [r30_0, r30_1, r30_2, r30_3, r30_4, r30_5, r30_6, r30_7, r30_8, r30_10, r30_11, F30, q30_9, q30, go_sem, UInt8.reduceLT, UInt8.reduceLE, Int.reduceToNat, Int.reduceLE, Int.reduceLT, Int.reduceEq, Int.reduceNe, Int.reduceNeg, Int.reduceAdd, Int.reduceSub, Int.reduceMul, Nat.reducePow, Nat.reduceDiv, Nat.reduceMod, Nat.reduceAdd, Nat.reduceSub, Nat.reduceMul, Nat.reduceLT, Nat.reduceLeDiff, Nat.reduceEqDiff, Nat.reduceBEq, reduceCtorEq, reduceIte, List.drop_length, digs]
  | succ m ih =>
    intro i h0 h1
    have hi : i < s.length := by omega
    have e1 := wsucc i (by omega)
    have ih' := ih (i + 1) (by omega) (by omega)
    rw [run_loop, drop_cons0 s i hi]
    by_cases h2 : s.getD i 0 < 48
    · simp only [r30_0, r30_1, r30_2, r30_3, r30_4, r30_5, r30_6, r30_7, r30_8, r30_10, r30_11, F30, q30_9, q30, go_sem, UInt8.reduceLT, UInt8.reduceLE, Int.reduceToNat, Int.reduceLE, Int.reduceLT, Int.reduceEq, Int.reduceNe, Int.reduceNeg, Int.reduceAdd, Int.reduceSub, Int.reduceMul, Nat.reducePow, Nat.reduceDiv, Nat.reduceMod, Nat.reduceAdd, Nat.reduceSub, Nat.reduceMul, Nat.reduceLT, Nat.reduceLeDiff, Nat.reduceEqDiff, Nat.reduceBEq, reduceCtorEq, reduceIte, hi, e1, digs, h2]
    · by_cases h3 : 57 < s.getD i 0
      · simp only [r30_0, r30_1, r30_2, r30_3, r30_4, r30_5, r30_6, r30_7, r30_8, r30_10, r30_11, F30, q30_9, q30, go_sem, UInt8.reduceLT, UInt8.reduceLE, Int.reduceToNat, Int.reduceLE, Int.reduceLT, Int.reduceEq, Int.reduceNe, Int.reduceNeg, Int.reduceAdd, Int.reduceSub, Int.reduceMul, Nat.reducePow, Nat.reduceDiv, Nat.reduceMod, Nat.reduceAdd, Nat.reduceSub, Nat.reduceMul, Nat.reduceLT, Nat.reduceLeDiff, Nat.reduceEqDiff, Nat.reduceBEq, reduceCtorEq, reduceIte, hi, e1, digs, h2, h3]
      · simp only [r30_0, r30_1, r30_2, r30_3, r30_4, r30_5, r30_6, r30_7, r30_8, r30_10, r30_11, F30, q30_9, q30, go_sem, UInt8.reduceLT, UInt8.reduceLE, Int.reduceToNat, Int.reduceLE, Int.reduceLT, Int.reduceEq, Int.reduceNe, Int.reduceNeg, Int.reduceAdd, Int.reduceSub, Int.reduceMul, Nat.reducePow, Nat.reduceDiv, Nat.reduceMod, Nat.reduceAdd, Nat.reduceSub, Nat.reduceMul, Nat.reduceLT, Nat.reduceLeDiff, Nat.reduceEqDiff, Nat.reduceBEq, reduceCtorEq, reduceIte, hi, e1, digs, h2, h3, ih']
set_option maxHeartbeats 4000000 in
theorem f30 (s : List UInt8) (hs : s.length ≤ 1000000000000) : call T 30 [.str s] [] 0 = some ⟨.int .i64 (numV s), [], []⟩ := by
  rw [call_code T_30]
  unfold numV
  by_cases h1 : s = []
  · simp only [r30_0, r30_1, r30_2, r30_3, r30_4, r30_5, r30_6, r30_7, r30_8, r30_10, r30_11, F30, q30_9, q30, go_sem, UInt8.reduceLT, UInt8.reduceLE, Int.reduceToNat, Int.reduceLE, Int.reduceLT, Int.reduceEq, Int.reduceNe, Int.reduceNeg, Int.reduceAdd, Int.reduceSub, Int.reduceMul, Nat.reducePow, Nat.reduceDiv, Nat.reduceMod, Nat.reduceAdd, Nat.reduceSub, Nat.reduceMul, Nat.reduceLT, Nat.reduceLeDiff, Nat.reduceEqDiff, Nat.reduceBEq, reduceCtorEq, reduceIte, h1]
  by_cases h2 : 10 < s.length
  · have h2' : (10 : Int) < ((s.length : Nat) : Int) := by omega
    simp only [r30_0, r30_1, r30_2, r30_3, r30_4, r30_5, r30_6, r30_7, r30_8, r30_10, r30_11, F30, q30_9, q30, go_sem, UInt8.reduceLT, UInt8.reduceLE, Int.reduceToNat, Int.reduceLE, Int.reduceLT, Int.reduceEq, Int.reduceNe, Int.reduceNeg, Int.reduceAdd, Int.reduceSub, Int.reduceMul, Nat.reducePow, Nat.reduceDiv, Nat.reduceMod, Nat.reduceAdd, Nat.reduceSub, Nat.reduceMul, Nat.reduceLT, Nat.reduceLeDiff, Nat.reduceEqDiff, Nat.reduceBEq, reduceCtorEq, reduceIte, h1, h2, h2']
  have h2' : ¬ (10 : Int) < ((s.length : Nat) : Int) := by omega
  have hp : (0 : Int) < ((s.length : Nat) : Int) := by cases s with | nil => exact absurd rfl h1 | cons c r => rw [List.length_cons]; omega
  have h := l30 s (by omega) _ 0 rfl (by omega)
  simp only [Int.natCast_zero, List.drop_zero] at h
  by_cases h3 : 1 < s.length
  · have h3' : (1 : Int) < ((s.length : Nat) : Int) := by omega
    by_cases h4 : s.getD 0 0 = 48
    · simp only [r30_0, r30_1, r30_2, r30_3, r30_4, r30_5, r30_6, r30_7, r30_8, r30_10, r30_11, F30, q30_9, q30, go_sem, UInt8.reduceLT, UInt8.reduceLE, Int.reduceToNat, Int.reduceLE, Int.reduceLT, Int.reduceEq, Int.reduceNe, Int.reduceNeg, Int.reduceAdd, Int.reduceSub, Int.reduceMul, Nat.reducePow, Nat.reduceDiv, Nat.reduceMod, Nat.reduceAdd, Nat.reduceSub, Nat.reduceMul, Nat.reduceLT, Nat.reduceLeDiff, Nat.reduceEqDiff, Nat.reduceBEq, reduceCtorEq, reduceIte, h1, h2, h2', h3, h3', h4, hp]
    · cases hd : digs s with
      | true => simp only [r30_0, r30_1, r30_2, r30_3, r30_4, r30_5, r30_6, r30_7, r30_8, r30_10, r30_11, F30, q30_9, q30, go_sem, UInt8.reduceLT, UInt8.reduceLE, Int.reduceToNat, Int.reduceLE, Int.reduceLT, Int.reduceEq, Int.reduceNe, Int.reduceNeg, Int.reduceAdd, Int.reduceSub, Int.reduceMul, Nat.reducePow, Nat.reduceDiv, Nat.reduceMod, Nat.reduceAdd, Nat.reduceSub, Nat.reduceMul, Nat.reduceLT, Nat.reduceLeDiff, Nat.reduceEqDiff, Nat.reduceBEq, reduceCtorEq, reduceIte, h1, h2, h2', h3, h3', h4, hp, h, hd, f41 s h1 (by omega) hd, S_41]
      | false => simp only [r30_0, r30_1, r30_2, r30_3, r30_4, r30_5, r30_6, r30_7, r30_8, r30_10, r30_11, F30, q30_9, q30, go_sem, UInt8.reduceLT, UInt8.reduceLE, Int.reduceToNat, Int.reduceLE, Int.reduceLT, Int.reduceEq, Int.reduceNe, Int.reduceNeg, Int.reduceAdd, Int.reduceSub, Int.reduceMul, Nat.reducePow, Nat.reduceDiv, Nat.reduceMod, Nat.reduceAdd, Nat.reduceSub, Nat.reduceMul, Nat.reduceLT, Nat.reduceLeDiff, Nat.reduceEqDiff, Nat.reduceBEq, reduceCtorEq, reduceIte, h1, h2, h2', h3, h3', h4, hp, h, hd]
  · have h3' : ¬ (1 : Int) < ((s.length : Nat) : Int) := by omega
    cases hd : digs s with
    | true => simp only [r30_0, r30_1, r30_2, r30_3, r30_4, r30_5, r30_6, r30_7, r30_8, r30_10, r30_11, F30, q30_9, q30, go_sem, UInt8.reduceLT, UInt8.reduceLE, Int.reduceToNat, Int.reduceLE, Int.reduceLT, Int.reduceEq, Int.reduceNe, Int.reduceNeg, Int.reduceAdd, Int.reduceSub, Int.reduceMul, Nat.reducePow, Nat.reduceDiv, Nat.reduceMod, Nat.reduceAdd, Nat.reduceSub, Nat.reduceMul, Nat.reduceLT, Nat.reduceLeDiff, Nat.reduceEqDiff, Nat.reduceBEq, reduceCtorEq, reduceIte, h1, h2, h2', h3, h3', hp, h, hd, f41 s h1 (by omega) hd, S_41]
    | false => simp only [r30_0, r30_1, r30_2, r30_3, r30_4, r30_5, r30_6, r30_7, r30_8, r30_10, r30_11, F30, q30_9, q30, go_sem, UInt8.reduceLT, UInt8.reduceLE, Int.reduceToNat, Int.reduceLE, Int.reduceLT, Int.reduceEq, Int.reduceNe, Int.reduceNeg, Int.reduceAdd, Int.reduceSub, Int.reduceMul, Nat.reducePow, Nat.reduceDiv, Nat.reduceMod, Nat.reduceAdd, Nat.reduceSub, Nat.reduceMul, Nat.reduceLT, Nat.reduceLeDiff, Nat.reduceEqDiff, Nat.reduceBEq, reduceCtorEq, reduceIte, h1, h2, h2', h3, h3', hp, h, hd]
end Go.Proofs.YtmekdaifojaoiaaDoor
