/-
  GlobMatch and GlobWider.
-/
import Derived.Test.YtmekdaifojaoiaaDoorD2
set_option maxRecDepth 100000
set_option linter.unusedSimpArgs false
set_option linter.unusedVariables false
namespace Go.Proofs.YtmekdaifojaoiaaDoor
open Go.Sy Go.Glob

theorem f4 (S B A M : List UInt8) : call T 4 [.str S, .byt B .no, .byt A .no, .byt M .no] [] 0 = some ⟨.bool true, [], []⟩ := by
  rw [call_code T_4]
  have g1 := f11 S 60
  have g2 := f17 B 60
  have g3 := f18 A 10 (by omega)
  obtain ⟨l, hl, g4⟩ := f19 M 12 (by omega)
  have hS : (S.take 60).length ≤ 60 := by rw [List.length_take]; omega
  have hB : (B.take 60).length ≤ 60 := by rw [List.length_take]; omega
  have hA : ((A.take 10).map pch).length ≤ 10 := by rw [List.length_map, List.length_take]; omega
  generalize S.take 60 = s at *
  generalize B.take 60 = b at *
  generalize (A.take 10).map pch = q at *
  have c60 : ((60 : Nat) : Int) = 60 := rfl
  have c10 : ((10 : Nat) : Int) = 10 := rfl
  have c12 : ((12 : Nat) : Int) = 12 := rfl
  rw [c60] at g1 g2
  rw [c10] at g3
  rw [c12] at g4
  have a1 := f20 s b (by omega) (by omega)
  have a2 := f21 s b (by omega) (by omega)
  have b1 := f20 q l (by omega) (by omega)
  have b2 := f21 q l (by omega) (by omega)
  have d1 := f20 s s (by omega) (by omega)
  have d2 := f21 s s (by omega) (by omega)
  have e1 := f20 q b (by omega) (by omega)
  have e2 := f21 q b (by omega) (by omega)
  simp only [r4_0, r4_1, r4_2, r4_3, r4_4, r4_5, F4, q4, go_sem, UInt8.reduceLT, UInt8.reduceLE, Int.reduceToNat, Int.reduceLE, Int.reduceLT, Int.reduceEq, Int.reduceNe, Int.reduceNeg, Int.reduceAdd, Int.reduceSub, Int.reduceMul, Nat.reducePow, Nat.reduceDiv, Nat.reduceMod, Nat.reduceAdd, Nat.reduceSub, Nat.reduceMul, Nat.reduceLT, Nat.reduceLeDiff, Nat.reduceEqDiff, Nat.reduceBEq, reduceCtorEq, reduceIte, f10, S_10, g1, S_11, g2, S_17, g3, S_18, g4, S_19, S_20, S_21, a1, a2, b1, b2, d1, d2, e1, e2]
theorem modI_nat (n : Int) (m : Nat) : ∃ k : Nat, modI n ((m + 1 : Nat) : Int) = k ∧ k ≤ m := by
  unfold modI
  have h1 : ¬ ((m + 1 : Nat) : Int) < 1 := by omega
  rw [if_neg h1]
  have h2 := Int.tmod_lt_of_pos n (b := ((m + 1 : Nat) : Int)) (by omega)
  have h3 := Int.lt_tmod_of_pos n (b := ((m + 1 : Nat) : Int)) (by omega)
  split
  · exact ⟨(n.tmod ((m + 1 : Nat) : Int) + ((m + 1 : Nat) : Int)).toNat, by omega, by omega⟩
  · exact ⟨(n.tmod ((m + 1 : Nat) : Int)).toNat, by omega, by omega⟩
set_option maxHeartbeats 8000000 in
theorem f7 (A X : List UInt8) (n : Int) (h1 : -9223372036854775808 ≤ n) (h2 : n ≤ 9223372036854775807) : call T 7 [.byt A .no, .byt X .no, .int .i64 n] [] 0 = some ⟨.bool true, [], []⟩ := by
  rw [call_code T_7]
  have g3 := f18 A 10 (by omega)
  obtain ⟨l, hl, g4⟩ := f19 X 10 (by omega)
  have hA : ((A.take 10).map pch).length ≤ 10 := by rw [List.length_map, List.length_take]; omega
  generalize (A.take 10).map pch = P at *
  have c10 : ((10 : Nat) : Int) = 10 := rfl
  rw [c10] at g3 g4
  have e1 := wsucc P.length (by omega)
  have g5 := f16 n ((P.length + 1 : Nat) : Int) h1 h2 (by omega)
  obtain ⟨k, hk, hkl⟩ := modI_nat n P.length
  rw [hk] at g5
  have a1 := f20 P l (by omega) (by omega)
  have a2 := f21 P l (by omega) (by omega)
  have hPk : P.take k ++ P.drop k = P := List.take_append_drop k P
  have hlt : (P.take k).length = k := by rw [List.length_take]; omega
  have hld : (P.drop k).length = P.length - k := List.length_drop
  have b1 := f20 (P.take k ++ 42 :: P.drop k) l (by simp; omega) (by omega)
  have k1 : k + 1 ≤ 9223372036854775807 := by omega
  have k2 : k + 1 + (P.length - k) ≤ 9223372036854775807 := by omega
  cases hg : gl P l with
  | false => simp only [r7_0, r7_1, r7_2, r7_3, r7_4, r7_5, r7_6, r7_7, r7_8, r7_9, r7_10, r7_11, F7, q7, go_sem, UInt8.reduceLT, UInt8.reduceLE, Int.reduceToNat, Int.reduceLE, Int.reduceLT, Int.reduceEq, Int.reduceNe, Int.reduceNeg, Int.reduceAdd, Int.reduceSub, Int.reduceMul, Nat.reducePow, Nat.reduceDiv, Nat.reduceMod, Nat.reduceAdd, Nat.reduceSub, Nat.reduceMul, Nat.reduceLT, Nat.reduceLeDiff, Nat.reduceEqDiff, Nat.reduceBEq, reduceCtorEq, reduceIte, f10, S_10, g3, S_18, g4, S_19, e1, g5, S_16, a1, hg, S_20, a2, S_21]
  | true =>
    have m1 : gl (P.take k ++ 42 :: P.drop k) l = true := gl_app_mono (fun l h => gl_ins _ _ h) _ _ (by rw [hPk]; exact hg)
    rw [m1] at b1
    by_cases hkk : k = P.length
    · have hkk' : (k = P.length) = True := eq_true hkk
      simp only [r7_0, r7_1, r7_2, r7_3, r7_4, r7_5, r7_6, r7_7, r7_8, r7_9, r7_10, r7_11, F7, q7, go_sem, UInt8.reduceLT, UInt8.reduceLE, Int.reduceToNat, Int.reduceLE, Int.reduceLT, Int.reduceEq, Int.reduceNe, Int.reduceNeg, Int.reduceAdd, Int.reduceSub, Int.reduceMul, Nat.reducePow, Nat.reduceDiv, Nat.reduceMod, Nat.reduceAdd, Nat.reduceSub, Nat.reduceMul, Nat.reduceLT, Nat.reduceLeDiff, Nat.reduceEqDiff, Nat.reduceBEq, reduceCtorEq, reduceIte, f10, S_10, g3, S_18, g4, S_19, e1, g5, S_16, a1, hg, S_20, hkl, hlt, hld, k1, k2, List.take_length, b1, hkk']
    · have hk2 : k < P.length := by omega
      have e2 := wsucc k (by omega)
      have hd := dropc P k hk2
      have m2 : gl (P.take k ++ 42 :: P.drop (k + 1)) l = true := gl_app_mono (fun l h => gl_rep_star _ _ _ h) _ _ (by rw [← hd, hPk]; exact hg)
      have b2 := f20 (P.take k ++ 42 :: P.drop (k + 1)) l (by simp; omega) (by omega)
      rw [m2] at b2
      have hld2 : (P.drop (k + 1)).length = P.length - (k + 1) := List.length_drop
      have k3 : k + 1 + (P.length - (k + 1)) ≤ 9223372036854775807 := by omega
      have hk3 : k + 1 ≤ P.length := by omega
      by_cases h42 : P.getD k 0 = 42
      · simp only [r7_0, r7_1, r7_2, r7_3, r7_4, r7_5, r7_6, r7_7, r7_8, r7_9, r7_10, r7_11, F7, q7, go_sem, UInt8.reduceLT, UInt8.reduceLE, Int.reduceToNat, Int.reduceLE, Int.reduceLT, Int.reduceEq, Int.reduceNe, Int.reduceNeg, Int.reduceAdd, Int.reduceSub, Int.reduceMul, Nat.reducePow, Nat.reduceDiv, Nat.reduceMod, Nat.reduceAdd, Nat.reduceSub, Nat.reduceMul, Nat.reduceLT, Nat.reduceLeDiff, Nat.reduceEqDiff, Nat.reduceBEq, reduceCtorEq, reduceIte, f10, S_10, g3, S_18, g4, S_19, e1, e2, g5, S_16, a1, hg, S_20, hkl, hk2, hk3, hlt, hld, hld2, k1, k2, k3, List.take_length, b1, b2, hkk, h42]
      · have m3 : gl (P.take k ++ 63 :: P.drop (k + 1)) l = true := gl_app_mono (fun l h => gl_rep_any _ _ _ h42 h) _ _ (by rw [← hd, hPk]; exact hg)
        have b3 := f20 (P.take k ++ 63 :: P.drop (k + 1)) l (by simp; omega) (by omega)
        rw [m3] at b3
        simp only [r7_0, r7_1, r7_2, r7_3, r7_4, r7_5, r7_6, r7_7, r7_8, r7_9, r7_10, r7_11, F7, q7, go_sem, UInt8.reduceLT, UInt8.reduceLE, Int.reduceToNat, Int.reduceLE, Int.reduceLT, Int.reduceEq, Int.reduceNe, Int.reduceNeg, Int.reduceAdd, Int.reduceSub, Int.reduceMul, Nat.reducePow, Nat.reduceDiv, Nat.reduceMod, Nat.reduceAdd, Nat.reduceSub, Nat.reduceMul, Nat.reduceLT, Nat.reduceLeDiff, Nat.reduceEqDiff, Nat.reduceBEq, reduceCtorEq, reduceIte, f10, S_10, g3, S_18, g4, S_19, e1, e2, g5, S_16, a1, hg, S_20, hkl, hk2, hk3, hlt, hld, hld2, k1, k2, k3, List.take_length, b1, b2, b3, hkk, h42]
end Go.Proofs.YtmekdaifojaoiaaDoor
