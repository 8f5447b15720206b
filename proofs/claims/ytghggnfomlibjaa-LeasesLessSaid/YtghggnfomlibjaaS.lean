/-
  The play, whole; the laws of grants and holds.
-/
import Derived.Test.YtghggnfomlibjaaR
set_option maxRecDepth 100000
set_option linter.unusedSimpArgs false
set_option linter.unusedVariables false
namespace Go.Proofs.Ytghggnfomlibjaa
open Go.Sy

theorem l9 (B : List UInt8) (hB : B.length ≤ 80) : ∀ (n a : Nat) (t : Tok) (l : Ls) (now : Int), B.length - a ≤ n → a ≤ B.length → WF l → 0 ≤ now → now ≤ 20 * (a : Int) → (t = .no ∨ t = .clip) →
    ∃ (t' : Tok) (l' : Ls) (now' : Int) (a' : Nat), (t' = .no ∨ t' = .clip) ∧ WF l' ∧ 0 ≤ now' ∧ now' ≤ 1600 ∧ run T (.loop r9_20) (st9 t l now B a) =
      some (.x 0, ⟨[(2, .ptr 102 0), (5, .ptr 105 0), (6, .int .i64 now')], [(102, .rc [.lst 3 [] .clip, .lst 3 [] .clip]), (105, lsO t' t' l'), (12100, codesO B a')], []⟩) := by
  intro n
  induction n with
  | zero =>
    intro a t l now hn ha hl h0 h1 ht
    have e : a = B.length := by omega
    subst e
    refine ⟨t, l, now, B.length, ht, hl, h0, by omega, ?_⟩
    have g1 := f22 B B.length
    simp only [codesO, Nat.lt_irrefl, decide_false] at g1
    rw [run_loop]
    rcases ht with rfl | rfl <;> simp only [r9_0, r9_1, r9_2, r9_3, r9_4, r9_5, r9_6, r9_7, r9_8, r9_9, r9_10, r9_11, r9_12, r9_13, r9_14, r9_15, r9_16, r9_17, r9_18, r9_19, r9_21, F9, q9_20, q9, go_sem, Int.reduceToNat, Int.reduceLE, Int.reduceLT, Int.reduceEq, Int.reduceNe, Int.reduceNeg, Int.reduceAdd, Int.reduceSub, Int.reduceMul, Nat.reducePow, Nat.reduceDiv, Nat.reduceMod, Nat.reduceAdd, Nat.reduceSub, Nat.reduceMul, Nat.reduceLT, Nat.reduceLeDiff, Nat.reduceEqDiff, Nat.reduceBEq, reduceCtorEq, reduceIte, st9, lsO, codesO, g1, S_22]
  | succ n ih =>
    intro a t l now hn ha hl h0 h1 ht
    rcases Nat.lt_or_ge a B.length with h | h
    · obtain ⟨t', l', now', a', k1, k2, k3, k4, k5, k6, k7⟩ := s9 B hB a h l hl now h0 h1 t ht
      rw [k7]
      exact ih a' t' l' now' (by omega) k6 k2 k3 k4 k1
    · have e : a = B.length := by omega
      subst e
      refine ⟨t, l, now, B.length, ht, hl, h0, by omega, ?_⟩
      have g1 := f22 B B.length
      simp only [codesO, Nat.lt_irrefl, decide_false] at g1
      rw [run_loop]
      rcases ht with rfl | rfl <;> simp only [r9_0, r9_1, r9_2, r9_3, r9_4, r9_5, r9_6, r9_7, r9_8, r9_9, r9_10, r9_11, r9_12, r9_13, r9_14, r9_15, r9_16, r9_17, r9_18, r9_19, r9_21, F9, q9_20, q9, go_sem, Int.reduceToNat, Int.reduceLE, Int.reduceLT, Int.reduceEq, Int.reduceNe, Int.reduceNeg, Int.reduceAdd, Int.reduceSub, Int.reduceMul, Nat.reducePow, Nat.reduceDiv, Nat.reduceMod, Nat.reduceAdd, Nat.reduceSub, Nat.reduceMul, Nat.reduceLT, Nat.reduceLeDiff, Nat.reduceEqDiff, Nat.reduceBEq, reduceCtorEq, reduceIte, st9, lsO, codesO, g1, S_22]
theorem f9 (b : List UInt8) : ∃ (l : Ls) (now : Int), WF l ∧ 0 ≤ now ∧ now ≤ 1600 ∧ call T 9 [.byt b .no] [] 0 = some ⟨.tup [l.sv, .int .i64 now], [], []⟩ := by
  have hB : (b.take 80).length ≤ 80 := by simp; omega
  obtain ⟨t, l, now, a, ht, hl, h0, h1, h⟩ := l9 (b.take 80) hB 80 0 .clip ⟨[], []⟩ 0 (by omega) (by omega) WF.nil (by omega) (by omega) (.inr rfl)
  refine ⟨l, now, hl, h0, h1, ?_⟩
  have g := f12 b 80
  have c80 : ((80 : Nat) : Int) = 80 := rfl
  rw [c80] at g
  rw [call_code T_9]
  simp only [st9, lsO, codesO, List.map_nil, Int.natCast_zero] at h g
  rcases ht with rfl | rfl <;> simp only [r9_0, r9_1, r9_2, r9_3, r9_4, r9_5, r9_6, r9_7, r9_8, r9_9, r9_10, r9_11, r9_12, r9_13, r9_14, r9_15, r9_16, r9_17, r9_18, r9_19, r9_21, F9, q9_20, q9, go_sem, Int.reduceToNat, Int.reduceLE, Int.reduceLT, Int.reduceEq, Int.reduceNe, Int.reduceNeg, Int.reduceAdd, Int.reduceSub, Int.reduceMul, Nat.reducePow, Nat.reduceDiv, Nat.reduceMod, Nat.reduceAdd, Nat.reduceSub, Nat.reduceMul, Nat.reduceLT, Nat.reduceLeDiff, Nat.reduceEqDiff, Nat.reduceBEq, reduceCtorEq, reduceIte, g, S_12, h, Ls.sv, lsSV, hsSV, Int.natCast_zero]
end Go.Proofs.Ytghggnfomlibjaa
