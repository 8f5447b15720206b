/-
  Patterns and lines that are drawn.
-/
import Derived.Test.YtmekdaifojaoiaaDoorI
set_option maxRecDepth 100000
set_option linter.unusedSimpArgs false
set_option linter.unusedVariables false
namespace Go.Proofs.YtmekdaifojaoiaaDoor
open Go.Sy Go.Glob

def pch (c : UInt8) : UInt8 := List.getD [97, 98, 42, 63] (c.toNat % 4) 0
set_option maxHeartbeats 4000000 in
theorem l18 (B : List UInt8) (hB : B.length ≤ 1000) : ∀ (m i : Nat) (acc : List UInt8), B.length - i = m → i ≤ B.length → acc.length ≤ 1000 + i →
    run T (.loop r18_5) ⟨[(5, .ptr 10100 0), (6, .byt acc (.id 106))], [(10100, .rc [.byt B .no, .int .i64 i])], [106]⟩ =
    some (.x 0, ⟨[(6, .byt (acc ++ (B.drop i).map pch) (.id 106))], [(10100, .rc [.byt B .no, .int .i64 B.length])], [106]⟩) := by
  intro m
  induction m with
  | zero =>
    intro i acc h0 h1 ha
    have hi : i = B.length := by omega
    subst hi
    rw [run_loop]
    have g1 := f27 B B.length
    simp only [codesO] at g1
    simp only [r18_0, r18_1, r18_2, r18_3, r18_4, r18_6, F18, q18_5, q18, go_sem, UInt8.reduceLT, UInt8.reduceLE, Int.reduceToNat, Int.reduceLE, Int.reduceLT, Int.reduceEq, Int.reduceNe, Int.reduceNeg, Int.reduceAdd, Int.reduceSub, Int.reduceMul, Nat.reducePow, Nat.reduceDiv, Nat.reduceMod, Nat.reduceAdd, Nat.reduceSub, Nat.reduceMul, Nat.reduceLT, Nat.reduceLeDiff, Nat.reduceEqDiff, Nat.reduceBEq, reduceCtorEq, reduceIte, g1, S_27, List.drop_length]
  | succ m ih =>
    intro i acc h0 h1 ha
    have hi : i < B.length := by omega
    rw [run_loop, drop_cons0 B i hi]
    have g1 := f27 B i
    have g2 := f22 B i 4 (by omega) (by omega)
    have ih' := ih (i + 1) (acc ++ [pch (B.getD i 0)]) (by omega) (by omega) (by simp; omega)
    simp only [codesO] at g1 g2
    simp only [nextV, nextA, hi, if_true] at g2
    have c4 : ((4 : Nat) : Int) = 4 := rfl
    rw [c4] at g2
    have hm : (B.getD i 0).toNat % 4 < 4 := Nat.mod_lt _ (by omega)
    have hp : List.getD [97, 98, 42, 63] ((B.getD i 0).toNat % 4) (0 : UInt8) = pch (B.getD i 0) := rfl
    have hc : acc.length + 1 ≤ 140737488355328 := by omega
    simp only [List.append_assoc, List.cons_append, List.nil_append] at ih'
    simp only [r18_0, r18_1, r18_2, r18_3, r18_4, r18_6, F18, q18_5, q18, go_sem, UInt8.reduceLT, UInt8.reduceLE, Int.reduceToNat, Int.reduceLE, Int.reduceLT, Int.reduceEq, Int.reduceNe, Int.reduceNeg, Int.reduceAdd, Int.reduceSub, Int.reduceMul, Nat.reducePow, Nat.reduceDiv, Nat.reduceMod, Nat.reduceAdd, Nat.reduceSub, Nat.reduceMul, Nat.reduceLT, Nat.reduceLeDiff, Nat.reduceEqDiff, Nat.reduceBEq, reduceCtorEq, reduceIte, g1, g2, S_27, S_22, hi, hm, hp, hc, ih']
theorem f18 (B : List UInt8) (n : Nat) (hn : n ≤ 1000) : call T 18 [.byt B .no, .int .i64 n] [] 0 = some ⟨.str ((B.take n).map pch), [], []⟩ := by
  rw [call_code T_18]
  have g0 := f12 B n
  have h := l18 (B.take n) (by simp; omega) _ 0 [] rfl (by omega) (by simp)
  simp only [codesO] at g0
  simp only [Int.natCast_zero, List.drop_zero, List.nil_append] at g0 h
  simp only [r18_0, r18_1, r18_2, r18_3, r18_4, r18_6, F18, q18_5, q18, go_sem, UInt8.reduceLT, UInt8.reduceLE, Int.reduceToNat, Int.reduceLE, Int.reduceLT, Int.reduceEq, Int.reduceNe, Int.reduceNeg, Int.reduceAdd, Int.reduceSub, Int.reduceMul, Nat.reducePow, Nat.reduceDiv, Nat.reduceMod, Nat.reduceAdd, Nat.reduceSub, Nat.reduceMul, Nat.reduceLT, Nat.reduceLeDiff, Nat.reduceEqDiff, Nat.reduceBEq, reduceCtorEq, reduceIte, g0, S_12, h]
end Go.Proofs.YtmekdaifojaoiaaDoor
