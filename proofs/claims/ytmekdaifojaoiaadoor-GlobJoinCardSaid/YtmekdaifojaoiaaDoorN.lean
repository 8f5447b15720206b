/-
  GlobJoin.
-/
import Derived.Test.YtmekdaifojaoiaaDoorM
set_option maxRecDepth 100000
set_option linter.unusedSimpArgs false
set_option linter.unusedVariables false
namespace Go.Proofs.YtmekdaifojaoiaaDoor
open Go.Sy Go.Glob

def okc (c : UInt8) : Bool := decide (c ≠ 42) && decide (c ≠ 63)
theorem l6 (P l : List UInt8) (hP : P.length ≤ 1000) : ∀ (n i : Nat) (b : Bool), P.length - i = n → i ≤ P.length →
    run T (.loop r6_15) ⟨[(11, .str P), (13, .byt l .no), (17, .bool b), (18, .int .i64 i)], [], [133]⟩ =
    some (.x 0, ⟨[(11, .str P), (13, .byt l .no), (17, .bool (b && (P.drop i).all okc))], [], [133]⟩) := by
  intro n
  induction n with
  | zero =>
    intro i b h0 h1
    have hi : i = P.length := by omega
    subst hi
    rw [run_loop]
    simp only [r6_0, r6_1, r6_2, r6_3, r6_4, r6_5, r6_6, r6_7, r6_8, r6_9, r6_10, r6_11, r6_12, r6_13, r6_14, r6_16, F6, q6_15, q6, go_sem, UInt8.reduceLT, UInt8.reduceLE, Int.reduceToNat, Int.reduceLE, Int.reduceLT, Int.reduceEq, Int.reduceNe, Int.reduceNeg, Int.reduceAdd, Int.reduceSub, Int.reduceMul, Nat.reducePow, Nat.reduceDiv, Nat.reduceMod, Nat.reduceAdd, Nat.reduceSub, Nat.reduceMul, Nat.reduceLT, Nat.reduceLeDiff, Nat.reduceEqDiff, Nat.reduceBEq, reduceCtorEq, reduceIte, List.drop_length]
  | succ n ih =>
    intro i b h0 h1
    have hi : i < P.length := by omega
    have e1 := wsucc i (by omega)
    have d := drop_cons0 P i hi
    cases b with
    | false =>
      have ih' := ih (i + 1) false (by omega) (by omega)
      rw [run_loop]
      simp only [r6_0, r6_1, r6_2, r6_3, r6_4, r6_5, r6_6, r6_7, r6_8, r6_9, r6_10, r6_11, r6_12, r6_13, r6_14, r6_16, F6, q6_15, q6, go_sem, UInt8.reduceLT, UInt8.reduceLE, Int.reduceToNat, Int.reduceLE, Int.reduceLT, Int.reduceEq, Int.reduceNe, Int.reduceNeg, Int.reduceAdd, Int.reduceSub, Int.reduceMul, Nat.reducePow, Nat.reduceDiv, Nat.reduceMod, Nat.reduceAdd, Nat.reduceSub, Nat.reduceMul, Nat.reduceLT, Nat.reduceLeDiff, Nat.reduceEqDiff, Nat.reduceBEq, reduceCtorEq, reduceIte, hi, e1, ih']
    | true =>
      rw [run_loop, d]
      by_cases h42 : P.getD i 0 = 42
      · have ih' := ih (i + 1) false (by omega) (by omega)
        have ho : okc (P.getD i 0) = false := by rw [h42]; rfl
        simp only [r6_0, r6_1, r6_2, r6_3, r6_4, r6_5, r6_6, r6_7, r6_8, r6_9, r6_10, r6_11, r6_12, r6_13, r6_14, r6_16, F6, q6_15, q6, go_sem, UInt8.reduceLT, UInt8.reduceLE, Int.reduceToNat, Int.reduceLE, Int.reduceLT, Int.reduceEq, Int.reduceNe, Int.reduceNeg, Int.reduceAdd, Int.reduceSub, Int.reduceMul, Nat.reducePow, Nat.reduceDiv, Nat.reduceMod, Nat.reduceAdd, Nat.reduceSub, Nat.reduceMul, Nat.reduceLT, Nat.reduceLeDiff, Nat.reduceEqDiff, Nat.reduceBEq, reduceCtorEq, reduceIte, hi, e1, h42, ih', List.all_cons, show okc 42 = false from rfl]
      by_cases h63 : P.getD i 0 = 63
      · have ih' := ih (i + 1) false (by omega) (by omega)
        have c63 : ¬ (63 : UInt8) = 42 := by decide
        simp only [r6_0, r6_1, r6_2, r6_3, r6_4, r6_5, r6_6, r6_7, r6_8, r6_9, r6_10, r6_11, r6_12, r6_13, r6_14, r6_16, F6, q6_15, q6, go_sem, UInt8.reduceLT, UInt8.reduceLE, Int.reduceToNat, Int.reduceLE, Int.reduceLT, Int.reduceEq, Int.reduceNe, Int.reduceNeg, Int.reduceAdd, Int.reduceSub, Int.reduceMul, Nat.reducePow, Nat.reduceDiv, Nat.reduceMod, Nat.reduceAdd, Nat.reduceSub, Nat.reduceMul, Nat.reduceLT, Nat.reduceLeDiff, Nat.reduceEqDiff, Nat.reduceBEq, reduceCtorEq, reduceIte, hi, e1, h63, c63, ih', List.all_cons, show okc 63 = false from rfl]
      · have ih' := ih (i + 1) true (by omega) (by omega)
        have ho : okc (P.getD i 0) = true := by unfold okc; rw [decide_eq_true h42, decide_eq_true h63]; rfl
        simp only [r6_0, r6_1, r6_2, r6_3, r6_4, r6_5, r6_6, r6_7, r6_8, r6_9, r6_10, r6_11, r6_12, r6_13, r6_14, r6_16, F6, q6_15, q6, go_sem, UInt8.reduceLT, UInt8.reduceLE, Int.reduceToNat, Int.reduceLE, Int.reduceLT, Int.reduceEq, Int.reduceNe, Int.reduceNeg, Int.reduceAdd, Int.reduceSub, Int.reduceMul, Nat.reducePow, Nat.reduceDiv, Nat.reduceMod, Nat.reduceAdd, Nat.reduceSub, Nat.reduceMul, Nat.reduceLT, Nat.reduceLeDiff, Nat.reduceEqDiff, Nat.reduceBEq, reduceCtorEq, reduceIte, hi, e1, h42, h63, ih', List.all_cons, ho]
set_option maxHeartbeats 16000000 in
theorem f6 (A B X Y : List UInt8) (n : Int) (h1 : -9223372036854775808 ≤ n) (h2 : n ≤ 9223372036854775807) : call T 6 [.byt A .no, .byt B .no, .byt X .no, .byt Y .no, .int .i64 n] [] 0 = some ⟨.bool true, [], []⟩ := by
  rw [call_code T_6]
  have g1 := f18 A 8 (by omega)
  have g2 := f18 B 8 (by omega)
  obtain ⟨l, hl, g3⟩ := f19 X 8 (by omega)
  obtain ⟨m, hm, g4⟩ := f19 Y 8 (by omega)
  have hA : ((A.take 8).map pch).length ≤ 8 := by rw [List.length_map, List.length_take]; omega
  have hB : ((B.take 8).map pch).length ≤ 8 := by rw [List.length_map, List.length_take]; omega
  generalize (A.take 8).map pch = P at *
  generalize (B.take 8).map pch = Q at *
  have c8 : ((8 : Nat) : Int) = 8 := rfl
  rw [c8] at g1 g2 g3 g4
  have e1 := wsucc P.length (by omega)
  have g5 := f16 n ((P.length + 1 : Nat) : Int) h1 h2 (by omega)
  obtain ⟨k, hk, hkl⟩ := modI_nat n P.length
  rw [hk] at g5
  have a1 := f20 P l (by omega) (by omega)
  have a2 := f20 Q m (by omega) (by omega)
  have a3 := f20 (P ++ Q) (l ++ m) (by simp; omega) (by simp; omega)
  have a4 := f20 [42] (l ++ m) (by simp) (by simp; omega)
  rw [gl_all] at a4
  have b1 := f20 (P.take k ++ 42 :: P.drop k) l (by simp; omega) (by omega)
  have b2 := f20 (P.take k ++ 42 :: 42 :: P.drop k) l (by simp; omega) (by omega)
  rw [gl_app_congr (q := 42 :: 42 :: P.drop k) (q' := 42 :: P.drop k) (fun l => gl_two _ l)] at b2
  have hlt : (P.take k).length = k := by rw [List.length_take]; omega
  have hld : (P.drop k).length = P.length - k := List.length_drop
  have k1 : k + 1 ≤ 9223372036854775807 := by omega
  have k2 : k + 1 + (P.length - k) ≤ 9223372036854775807 := by omega
  have k3 : k + 2 ≤ 9223372036854775807 := by omega
  have k4 : k + 2 + (P.length - k) ≤ 9223372036854775807 := by omega
  have k5 : l.length ≤ 140737488355328 := by omega
  have k6 : l.length + m.length ≤ 140737488355328 := by omega
  have k7 : P.length + Q.length ≤ 9223372036854775807 := by omega
  have hll := l6 P l (by omega) _ 0 true rfl (by omega)
  have hpl := gl_plain P l
  simp only [Int.natCast_zero, List.drop_zero, Bool.true_and] at hll
  generalize hG : gl (P.take k ++ 42 :: P.drop k) l = G at *
  have hJ : gl P l = true → gl Q m = true → gl (P ++ Q) (l ++ m) = true := gl_join
  cases h3 : gl P l with
  | false =>
    rw [h3] at a1
    cases h5 : P.all okc with
    | false => simp only [r6_0, r6_1, r6_2, r6_3, r6_4, r6_5, r6_6, r6_7, r6_8, r6_9, r6_10, r6_11, r6_12, r6_13, r6_14, r6_16, F6, q6_15, q6, go_sem, UInt8.reduceLT, UInt8.reduceLE, Int.reduceToNat, Int.reduceLE, Int.reduceLT, Int.reduceEq, Int.reduceNe, Int.reduceNeg, Int.reduceAdd, Int.reduceSub, Int.reduceMul, Nat.reducePow, Nat.reduceDiv, Nat.reduceMod, Nat.reduceAdd, Nat.reduceSub, Nat.reduceMul, Nat.reduceLT, Nat.reduceLeDiff, Nat.reduceEqDiff, Nat.reduceBEq, reduceCtorEq, reduceIte, f10, S_10, g1, g2, S_18, g3, g4, S_19, e1, g5, S_16, a1, a2, a3, a4, b1, b2, S_20, hkl, hlt, hld, k1, k2, k3, k4, k5, k6, k7, List.take_length, hll, h5]
    | true =>
      have hne : ¬ P = l := by
        intro h
        have := hpl h5
        rw [h3, decide_eq_true h] at this
        cases this
      simp only [r6_0, r6_1, r6_2, r6_3, r6_4, r6_5, r6_6, r6_7, r6_8, r6_9, r6_10, r6_11, r6_12, r6_13, r6_14, r6_16, F6, q6_15, q6, go_sem, UInt8.reduceLT, UInt8.reduceLE, Int.reduceToNat, Int.reduceLE, Int.reduceLT, Int.reduceEq, Int.reduceNe, Int.reduceNeg, Int.reduceAdd, Int.reduceSub, Int.reduceMul, Nat.reducePow, Nat.reduceDiv, Nat.reduceMod, Nat.reduceAdd, Nat.reduceSub, Nat.reduceMul, Nat.reduceLT, Nat.reduceLeDiff, Nat.reduceEqDiff, Nat.reduceBEq, reduceCtorEq, reduceIte, f10, S_10, g1, g2, S_18, g3, g4, S_19, e1, g5, S_16, a1, a2, a3, a4, b1, b2, S_20, hkl, hlt, hld, k1, k2, k3, k4, k5, k6, k7, List.take_length, hll, h5, hne]
  | true =>
    rw [h3] at a1
    have hJ' : gl Q m = true → gl (P ++ Q) (l ++ m) = true := hJ h3
    have main : ∀ v : Bool, gl Q m = v → (v = true → gl (P ++ Q) (l ++ m) = true) → ∀ b : Bool, P.all okc = b → (b = true → P = l) → call T 6 [.byt A .no, .byt B .no, .byt X .no, .byt Y .no, .int .i64 n] [] 0 = some ⟨.bool true, [], []⟩ := by
      intro v hv hJ2 b hb hpl2
      rw [call_code T_6]
      cases v with
      | false =>
        rw [hv] at a2
        cases b with
        | false => simp only [r6_0, r6_1, r6_2, r6_3, r6_4, r6_5, r6_6, r6_7, r6_8, r6_9, r6_10, r6_11, r6_12, r6_13, r6_14, r6_16, F6, q6_15, q6, go_sem, UInt8.reduceLT, UInt8.reduceLE, Int.reduceToNat, Int.reduceLE, Int.reduceLT, Int.reduceEq, Int.reduceNe, Int.reduceNeg, Int.reduceAdd, Int.reduceSub, Int.reduceMul, Nat.reducePow, Nat.reduceDiv, Nat.reduceMod, Nat.reduceAdd, Nat.reduceSub, Nat.reduceMul, Nat.reduceLT, Nat.reduceLeDiff, Nat.reduceEqDiff, Nat.reduceBEq, reduceCtorEq, reduceIte, f10, S_10, g1, g2, S_18, g3, g4, S_19, e1, g5, S_16, a1, a2, a3, a4, b1, b2, S_20, hkl, hlt, hld, k1, k2, k3, k4, k5, k6, k7, List.take_length, hll, hb]
        | true =>
          have he : (P = l) = True := eq_true (hpl2 rfl)
          simp only [r6_0, r6_1, r6_2, r6_3, r6_4, r6_5, r6_6, r6_7, r6_8, r6_9, r6_10, r6_11, r6_12, r6_13, r6_14, r6_16, F6, q6_15, q6, go_sem, UInt8.reduceLT, UInt8.reduceLE, Int.reduceToNat, Int.reduceLE, Int.reduceLT, Int.reduceEq, Int.reduceNe, Int.reduceNeg, Int.reduceAdd, Int.reduceSub, Int.reduceMul, Nat.reducePow, Nat.reduceDiv, Nat.reduceMod, Nat.reduceAdd, Nat.reduceSub, Nat.reduceMul, Nat.reduceLT, Nat.reduceLeDiff, Nat.reduceEqDiff, Nat.reduceBEq, reduceCtorEq, reduceIte, f10, S_10, g1, g2, S_18, g3, g4, S_19, e1, g5, S_16, a1, a2, a3, a4, b1, b2, S_20, hkl, hlt, hld, k1, k2, k3, k4, k5, k6, k7, List.take_length, hll, hb, he]
      | true =>
        rw [hv] at a2
        rw [hJ2 rfl] at a3
        cases b with
        | false => simp only [r6_0, r6_1, r6_2, r6_3, r6_4, r6_5, r6_6, r6_7, r6_8, r6_9, r6_10, r6_11, r6_12, r6_13, r6_14, r6_16, F6, q6_15, q6, go_sem, UInt8.reduceLT, UInt8.reduceLE, Int.reduceToNat, Int.reduceLE, Int.reduceLT, Int.reduceEq, Int.reduceNe, Int.reduceNeg, Int.reduceAdd, Int.reduceSub, Int.reduceMul, Nat.reducePow, Nat.reduceDiv, Nat.reduceMod, Nat.reduceAdd, Nat.reduceSub, Nat.reduceMul, Nat.reduceLT, Nat.reduceLeDiff, Nat.reduceEqDiff, Nat.reduceBEq, reduceCtorEq, reduceIte, f10, S_10, g1, g2, S_18, g3, g4, S_19, e1, g5, S_16, a1, a2, a3, a4, b1, b2, S_20, hkl, hlt, hld, k1, k2, k3, k4, k5, k6, k7, List.take_length, hll, hb]
        | true =>
          have he : (P = l) = True := eq_true (hpl2 rfl)
          simp only [r6_0, r6_1, r6_2, r6_3, r6_4, r6_5, r6_6, r6_7, r6_8, r6_9, r6_10, r6_11, r6_12, r6_13, r6_14, r6_16, F6, q6_15, q6, go_sem, UInt8.reduceLT, UInt8.reduceLE, Int.reduceToNat, Int.reduceLE, Int.reduceLT, Int.reduceEq, Int.reduceNe, Int.reduceNeg, Int.reduceAdd, Int.reduceSub, Int.reduceMul, Nat.reducePow, Nat.reduceDiv, Nat.reduceMod, Nat.reduceAdd, Nat.reduceSub, Nat.reduceMul, Nat.reduceLT, Nat.reduceLeDiff, Nat.reduceEqDiff, Nat.reduceBEq, reduceCtorEq, reduceIte, f10, S_10, g1, g2, S_18, g3, g4, S_19, e1, g5, S_16, a1, a2, a3, a4, b1, b2, S_20, hkl, hlt, hld, k1, k2, k3, k4, k5, k6, k7, List.take_length, hll, hb, he]
    have := main (gl Q m) rfl hJ' (P.all okc) rfl (fun hb => by
      have := hpl hb
      rw [h3] at this
      exact of_decide_eq_true this.symm)
    rw [call_code T_6] at this
    exact this
end Go.Proofs.YtmekdaifojaoiaaDoor
