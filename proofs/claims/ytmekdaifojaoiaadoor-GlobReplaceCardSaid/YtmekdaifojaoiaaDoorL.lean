/-
  GlobReplace.
-/
import Derived.Test.YtmekdaifojaoiaaDoorJ
set_option maxRecDepth 100000
set_option linter.unusedSimpArgs false
set_option linter.unusedVariables false
namespace Go.Proofs.YtmekdaifojaoiaaDoor
open Go.Sy Go.Glob

theorem next_lt (B : List UInt8) (i n : Nat) (h : 0 < n) : nextV B i n < n := by
  unfold nextV
  split
  · exact Nat.mod_lt _ h
  · exact h
def fillB (F : List UInt8) : Nat → Nat → List UInt8
  | _, 0 => []
  | k, n + 1 => if k < F.length then F.getD k 0 :: fillB F (k + 1) n else 98 :: fillB F k n
def fillK (F : List UInt8) : Nat → Nat → Nat
  | k, 0 => k
  | k, n + 1 => if k < F.length then fillK F (k + 1) n else fillK F k n
theorem fillB_len (F : List UInt8) : ∀ n k, (fillB F k n).length = n
  | 0, _ => rfl
  | n + 1, k => by simp only [fillB]; split <;> simp [fillB_len F n]
theorem fillK_le (F : List UInt8) : ∀ n k, k ≤ F.length → fillK F k n ≤ F.length
  | 0, _, h => h
  | n + 1, k, h => by
    simp only [fillK]
    split
    · exact fillK_le F n (k + 1) (by omega)
    · exact fillK_le F n k h
set_option maxHeartbeats 4000000 in
theorem l5b (F P L : List UInt8) (i j : Nat) (hF : F.length ≤ 9223372036854775807) : ∀ (n k : Nat) (acc : List UInt8), k ≤ F.length → acc.length + n ≤ 1000 →
    run T (.loop r5_22) ⟨[(1, .byt F .no), (7, .str P), (8, .ptr 20100 0), (9, .byt acc (.id 109)), (10, .int .i64 k), (11, .int .i64 i), (12, .int .i64 n)], [(20100, .rc [.byt L .no, .int .i64 j])], [109]⟩ =
    some (.x 3, ⟨[(1, .byt F .no), (7, .str P), (8, .ptr 20100 0), (9, .byt (acc ++ fillB F k n) (.id 109)), (10, .int .i64 (fillK F k n : Nat)), (11, .int .i64 i)], [(20100, .rc [.byt L .no, .int .i64 j])], [109]⟩) := by
  intro n
  induction n with
  | zero =>
    intro k acc hk ha
    rw [run_loop]
    simp only [r5_0, r5_1, r5_2, r5_3, r5_4, r5_5, r5_6, r5_7, r5_8, r5_9, r5_10, r5_11, r5_12, r5_13, r5_14, r5_15, r5_16, r5_17, r5_18, r5_19, r5_20, r5_21, r5_23, r5_25, F5, q5_22, q5_24, q5, go_sem, UInt8.reduceLT, UInt8.reduceLE, Int.reduceToNat, Int.reduceLE, Int.reduceLT, Int.reduceEq, Int.reduceNe, Int.reduceNeg, Int.reduceAdd, Int.reduceSub, Int.reduceMul, Nat.reducePow, Nat.reduceDiv, Nat.reduceMod, Nat.reduceAdd, Nat.reduceSub, Nat.reduceMul, Nat.reduceLT, Nat.reduceLeDiff, Nat.reduceEqDiff, Nat.reduceBEq, reduceCtorEq, reduceIte, Int.natCast_zero, fillB, fillK, List.append_nil]
  | succ n ih =>
    intro k acc hk ha
    have e2 : IntKind.i64.wrap (((n + 1 : Nat) : Int) - 1) = (n : Int) := by rw [w64 (by omega) (by omega)]; omega
    have e3 : (0 : Int) < ((n + 1 : Nat) : Int) := by omega
    have e4 : acc.length + 1 ≤ 140737488355328 := by omega
    rw [run_loop]
    by_cases h : k < F.length
    · have e1 := wsucc k (by omega)
      have ih' := ih (k + 1) (acc ++ [F.getD k 0]) (by omega) (by simp; omega)
      simp only [List.append_assoc, List.cons_append, List.nil_append] at ih'
      simp only [r5_0, r5_1, r5_2, r5_3, r5_4, r5_5, r5_6, r5_7, r5_8, r5_9, r5_10, r5_11, r5_12, r5_13, r5_14, r5_15, r5_16, r5_17, r5_18, r5_19, r5_20, r5_21, r5_23, r5_25, F5, q5_22, q5_24, q5, go_sem, UInt8.reduceLT, UInt8.reduceLE, Int.reduceToNat, Int.reduceLE, Int.reduceLT, Int.reduceEq, Int.reduceNe, Int.reduceNeg, Int.reduceAdd, Int.reduceSub, Int.reduceMul, Nat.reducePow, Nat.reduceDiv, Nat.reduceMod, Nat.reduceAdd, Nat.reduceSub, Nat.reduceMul, Nat.reduceLT, Nat.reduceLeDiff, Nat.reduceEqDiff, Nat.reduceBEq, reduceCtorEq, reduceIte, e1, e2, e3, e4, h, ih', fillB, fillK]
    · have ih' := ih k (acc ++ [98]) (by omega) (by simp; omega)
      simp only [List.append_assoc, List.cons_append, List.nil_append] at ih'
      simp only [r5_0, r5_1, r5_2, r5_3, r5_4, r5_5, r5_6, r5_7, r5_8, r5_9, r5_10, r5_11, r5_12, r5_13, r5_14, r5_15, r5_16, r5_17, r5_18, r5_19, r5_20, r5_21, r5_23, r5_25, F5, q5_22, q5_24, q5, go_sem, UInt8.reduceLT, UInt8.reduceLE, Int.reduceToNat, Int.reduceLE, Int.reduceLT, Int.reduceEq, Int.reduceNe, Int.reduceNeg, Int.reduceAdd, Int.reduceSub, Int.reduceMul, Nat.reducePow, Nat.reduceDiv, Nat.reduceMod, Nat.reduceAdd, Nat.reduceSub, Nat.reduceMul, Nat.reduceLT, Nat.reduceLeDiff, Nat.reduceEqDiff, Nat.reduceBEq, reduceCtorEq, reduceIte, e2, e3, e4, h, ih', fillB, fillK]
theorem gl_fill (q t r : List UInt8) (h : gl q r = true) : gl (42 :: q) (t ++ r) = true := by
  rw [gl_star, tl_iff]
  exact ⟨t.length, by simp, by simpa using h⟩
theorem nextA_le (L : List UInt8) (j : Nat) (h : j ≤ L.length) : nextA L j ≤ L.length := by
  unfold nextA
  split <;> omega
set_option maxHeartbeats 8000000 in
theorem l5 (F P L : List UInt8) (hF : F.length ≤ 9223372036854775807) (hP : P.length ≤ 100) (hL : L.length ≤ 1000) : ∀ (m i j k : Nat) (acc : List UInt8), P.length - i = m → i ≤ P.length → k ≤ F.length → acc.length ≤ 4 * i →
    ∃ tail j', gl (P.drop i) tail = true ∧ tail.length ≤ 4 * m ∧ run T (.loop r5_24) ⟨[(1, .byt F .no), (7, .str P), (8, .ptr 20100 0), (9, .byt acc (.id 109)), (10, .int .i64 k), (11, .int .i64 i)], [(20100, .rc [.byt L .no, .int .i64 (j : Nat)])], [109]⟩ =
    some (.x 0, ⟨[(7, .str P), (9, .byt (acc ++ tail) (.id 109))], [(20100, .rc [.byt L .no, .int .i64 (j' : Nat)])], [109]⟩) := by
  intro m
  induction m with
  | zero =>
    intro i j k acc h0 h1 hk ha
    have hi : i = P.length := by omega
    subst hi
    refine ⟨[], j, by rw [List.drop_length]; rfl, by simp, ?_⟩
    rw [run_loop]
    simp only [r5_0, r5_1, r5_2, r5_3, r5_4, r5_5, r5_6, r5_7, r5_8, r5_9, r5_10, r5_11, r5_12, r5_13, r5_14, r5_15, r5_16, r5_17, r5_18, r5_19, r5_20, r5_21, r5_23, r5_25, F5, q5_22, q5_24, q5, go_sem, UInt8.reduceLT, UInt8.reduceLE, Int.reduceToNat, Int.reduceLE, Int.reduceLT, Int.reduceEq, Int.reduceNe, Int.reduceNeg, Int.reduceAdd, Int.reduceSub, Int.reduceMul, Nat.reducePow, Nat.reduceDiv, Nat.reduceMod, Nat.reduceAdd, Nat.reduceSub, Nat.reduceMul, Nat.reduceLT, Nat.reduceLeDiff, Nat.reduceEqDiff, Nat.reduceBEq, reduceCtorEq, reduceIte, List.append_nil]
  | succ m ih =>
    intro i j k acc h0 h1 hk ha
    have hi : i < P.length := by omega
    have e1 := wsucc i (by omega)
    have g := f22 L j 4 (by omega) (by omega)
    have hm := next_lt L j 4 (by omega)
    have c4 : ((4 : Nat) : Int) = 4 := rfl
    have c1 : ((1 : Nat) : Int) = 1 := rfl
    rw [c4] at g
    simp only [codesO] at g
    rw [dropc P i hi]
    by_cases h2 : P.getD i 0 = 42
    · have hb := l5b F P L i (nextA L j) hF (nextV L j 4) k acc hk (by omega)
      obtain ⟨tail, j', t1, t2, t3⟩ := ih (i + 1) (nextA L j) (fillK F k (nextV L j 4)) (acc ++ fillB F k (nextV L j 4)) (by omega) (by omega) (fillK_le F _ k hk) (by rw [List.length_append, fillB_len]; omega)
      refine ⟨fillB F k (nextV L j 4) ++ tail, j', by rw [h2]; exact gl_fill _ _ _ t1, by rw [List.length_append, fillB_len]; omega, ?_⟩
      rw [run_loop]
      simp only [List.append_assoc] at t3
      simp only [r5_0, r5_1, r5_2, r5_3, r5_4, r5_5, r5_6, r5_7, r5_8, r5_9, r5_10, r5_11, r5_12, r5_13, r5_14, r5_15, r5_16, r5_17, r5_18, r5_19, r5_20, r5_21, r5_23, r5_25, F5, q5_22, q5_24, q5, go_sem, UInt8.reduceLT, UInt8.reduceLE, Int.reduceToNat, Int.reduceLE, Int.reduceLT, Int.reduceEq, Int.reduceNe, Int.reduceNeg, Int.reduceAdd, Int.reduceSub, Int.reduceMul, Nat.reducePow, Nat.reduceDiv, Nat.reduceMod, Nat.reduceAdd, Nat.reduceSub, Nat.reduceMul, Nat.reduceLT, Nat.reduceLeDiff, Nat.reduceEqDiff, Nat.reduceBEq, reduceCtorEq, reduceIte, hi, h2, g, S_22, hb, e1, t3]
    by_cases h3 : P.getD i 0 = 63
    · have hb := l5b F P L i j hF 1 k acc hk (by omega)
      rw [c1] at hb
      obtain ⟨tail, j', t1, t2, t3⟩ := ih (i + 1) j (fillK F k 1) (acc ++ fillB F k 1) (by omega) (by omega) (fillK_le F _ k hk) (by rw [List.length_append, fillB_len]; omega)
      refine ⟨fillB F k 1 ++ tail, j', ?_, by rw [List.length_append, fillB_len]; omega, ?_⟩
      · obtain ⟨x, hx⟩ : ∃ x, fillB F k 1 = [x] := by
          have := fillB_len F 1 k
          cases hf : fillB F k 1 with
          | nil => rw [hf] at this; simp at this
          | cons x r => rw [hf] at this; cases r with | nil => exact ⟨x, rfl⟩ | cons _ _ => simp at this
        rw [hx, h3, List.singleton_append, gl_cons _ _ _ _ (by decide), t1]; rfl
      rw [run_loop]
      simp only [List.append_assoc] at t3
      have c63 : ¬ (63 : UInt8) = 42 := by decide
      simp only [r5_0, r5_1, r5_2, r5_3, r5_4, r5_5, r5_6, r5_7, r5_8, r5_9, r5_10, r5_11, r5_12, r5_13, r5_14, r5_15, r5_16, r5_17, r5_18, r5_19, r5_20, r5_21, r5_23, r5_25, F5, q5_22, q5_24, q5, go_sem, UInt8.reduceLT, UInt8.reduceLE, Int.reduceToNat, Int.reduceLE, Int.reduceLT, Int.reduceEq, Int.reduceNe, Int.reduceNeg, Int.reduceAdd, Int.reduceSub, Int.reduceMul, Nat.reducePow, Nat.reduceDiv, Nat.reduceMod, Nat.reduceAdd, Nat.reduceSub, Nat.reduceMul, Nat.reduceLT, Nat.reduceLeDiff, Nat.reduceEqDiff, Nat.reduceBEq, reduceCtorEq, reduceIte, hi, h3, c63, hb, e1, t3]
    · obtain ⟨tail, j', t1, t2, t3⟩ := ih (i + 1) j k (acc ++ [P.getD i 0]) (by omega) (by omega) hk (by simp; omega)
      have e4 : acc.length + 1 ≤ 140737488355328 := by omega
      refine ⟨P.getD i 0 :: tail, j', by rw [gl_cons _ _ _ _ h2, t1]; simp, by simp; omega, ?_⟩
      rw [run_loop]
      simp only [List.append_assoc, List.cons_append, List.nil_append] at t3
      simp only [r5_0, r5_1, r5_2, r5_3, r5_4, r5_5, r5_6, r5_7, r5_8, r5_9, r5_10, r5_11, r5_12, r5_13, r5_14, r5_15, r5_16, r5_17, r5_18, r5_19, r5_20, r5_21, r5_23, r5_25, F5, q5_22, q5_24, q5, go_sem, UInt8.reduceLT, UInt8.reduceLE, Int.reduceToNat, Int.reduceLE, Int.reduceLT, Int.reduceEq, Int.reduceNe, Int.reduceNeg, Int.reduceAdd, Int.reduceSub, Int.reduceMul, Nat.reducePow, Nat.reduceDiv, Nat.reduceMod, Nat.reduceAdd, Nat.reduceSub, Nat.reduceMul, Nat.reduceLT, Nat.reduceLeDiff, Nat.reduceEqDiff, Nat.reduceBEq, reduceCtorEq, reduceIte, hi, h2, h3, e1, e4, t3]
theorem f5 (A F L : List UInt8) (hF : F.length ≤ 9223372036854775807) : call T 5 [.byt A .no, .byt F .no, .byt L .no] [] 0 = some ⟨.bool true, [], []⟩ := by
  rw [call_code T_5]
  have g0 := f12 L 20
  have c20 : ((20 : Nat) : Int) = 20 := rfl
  have c12 : ((12 : Nat) : Int) = 12 := rfl
  have g1 := f18 A 12 (by omega)
  rw [c20] at g0
  rw [c12] at g1
  simp only [codesO] at g0
  have hPl : ((A.take 12).map pch).length ≤ 12 := by rw [List.length_map, List.length_take]; omega
  obtain ⟨tail, j', t1, t2, t3⟩ := l5 F ((A.take 12).map pch) (L.take 20) hF (by omega) (by rw [List.length_take]; omega) _ 0 0 0 [] rfl (by omega) (by omega) (by simp)
  rw [List.drop_zero] at t1
  have g2 := f20 ((A.take 12).map pch) tail (by omega) (by omega)
  rw [t1] at g2
  generalize (A.take 12).map pch = P at *
  simp only [Int.natCast_zero, List.nil_append] at g0 t3
  simp only [r5_0, r5_1, r5_2, r5_3, r5_4, r5_5, r5_6, r5_7, r5_8, r5_9, r5_10, r5_11, r5_12, r5_13, r5_14, r5_15, r5_16, r5_17, r5_18, r5_19, r5_20, r5_21, r5_23, r5_25, F5, q5_22, q5_24, q5, go_sem, UInt8.reduceLT, UInt8.reduceLE, Int.reduceToNat, Int.reduceLE, Int.reduceLT, Int.reduceEq, Int.reduceNe, Int.reduceNeg, Int.reduceAdd, Int.reduceSub, Int.reduceMul, Nat.reducePow, Nat.reduceDiv, Nat.reduceMod, Nat.reduceAdd, Nat.reduceSub, Nat.reduceMul, Nat.reduceLT, Nat.reduceLeDiff, Nat.reduceEqDiff, Nat.reduceBEq, reduceCtorEq, reduceIte, f10, S_10, g0, S_12, g1, S_18, t3, g2, S_20]
end Go.Proofs.YtmekdaifojaoiaaDoor
