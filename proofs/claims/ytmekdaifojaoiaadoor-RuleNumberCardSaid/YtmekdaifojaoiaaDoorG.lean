/-
  Prefixes; numbers read.
-/
import Derived.Test.YtmekdaifojaoiaaDoorF
set_option maxRecDepth 100000
set_option linter.unusedSimpArgs false
set_option linter.unusedVariables false
namespace Go.Proofs.YtmekdaifojaoiaaDoor
open Go.Sy Go.Glob

theorem f46 (s t : List UInt8) : call T 46 [.str s, .str t] [] 0 = some ⟨.bool (decide (t.length ≤ s.length ∧ s.take t.length = t)), [], []⟩ := by
  rw [call_code T_46]
  by_cases h : t.length ≤ s.length
  · by_cases h2 : s.take t.length = t
    · simp only [r46_0, r46_1, F46, q46, go_sem, UInt8.reduceLT, UInt8.reduceLE, Int.reduceToNat, Int.reduceLE, Int.reduceLT, Int.reduceEq, Int.reduceNe, Int.reduceNeg, Int.reduceAdd, Int.reduceSub, Int.reduceMul, Nat.reducePow, Nat.reduceDiv, Nat.reduceMod, Nat.reduceAdd, Nat.reduceSub, Nat.reduceMul, Nat.reduceLT, Nat.reduceLeDiff, Nat.reduceEqDiff, Nat.reduceBEq, reduceCtorEq, reduceIte, h, h2]
    · simp only [r46_0, r46_1, F46, q46, go_sem, UInt8.reduceLT, UInt8.reduceLE, Int.reduceToNat, Int.reduceLE, Int.reduceLT, Int.reduceEq, Int.reduceNe, Int.reduceNeg, Int.reduceAdd, Int.reduceSub, Int.reduceMul, Nat.reducePow, Nat.reduceDiv, Nat.reduceMod, Nat.reduceAdd, Nat.reduceSub, Nat.reduceMul, Nat.reduceLT, Nat.reduceLeDiff, Nat.reduceEqDiff, Nat.reduceBEq, reduceCtorEq, reduceIte, h, h2]
  · simp only [r46_0, r46_1, F46, q46, go_sem, UInt8.reduceLT, UInt8.reduceLE, Int.reduceToNat, Int.reduceLE, Int.reduceLT, Int.reduceEq, Int.reduceNe, Int.reduceNeg, Int.reduceAdd, Int.reduceSub, Int.reduceMul, Nat.reducePow, Nat.reduceDiv, Nat.reduceMod, Nat.reduceAdd, Nat.reduceSub, Nat.reduceMul, Nat.reduceLT, Nat.reduceLeDiff, Nat.reduceEqDiff, Nat.reduceBEq, reduceCtorEq, reduceIte, h]
theorem f40 (s t : List UInt8) : call T 40 [.str s, .str t] [] 0 = some ⟨if t.length ≤ s.length ∧ s.take t.length = t then .tup [.str (s.drop t.length), .bool true] else .tup [.str s, .bool false], [], []⟩ := by
  rw [call_code T_40]
  by_cases h : t.length ≤ s.length ∧ s.take t.length = t
  · have h1 := h.1
    simp only [r40_0, r40_1, r40_2, r40_3, F40, q40, go_sem, UInt8.reduceLT, UInt8.reduceLE, Int.reduceToNat, Int.reduceLE, Int.reduceLT, Int.reduceEq, Int.reduceNe, Int.reduceNeg, Int.reduceAdd, Int.reduceSub, Int.reduceMul, Nat.reducePow, Nat.reduceDiv, Nat.reduceMod, Nat.reduceAdd, Nat.reduceSub, Nat.reduceMul, Nat.reduceLT, Nat.reduceLeDiff, Nat.reduceEqDiff, Nat.reduceBEq, reduceCtorEq, reduceIte, f46, S_46, h, h1, List.take_length]
  · simp only [r40_0, r40_1, r40_2, r40_3, F40, q40, go_sem, UInt8.reduceLT, UInt8.reduceLE, Int.reduceToNat, Int.reduceLE, Int.reduceLT, Int.reduceEq, Int.reduceNe, Int.reduceNeg, Int.reduceAdd, Int.reduceSub, Int.reduceMul, Nat.reducePow, Nat.reduceDiv, Nat.reduceMod, Nat.reduceAdd, Nat.reduceSub, Nat.reduceMul, Nat.reduceLT, Nat.reduceLeDiff, Nat.reduceEqDiff, Nat.reduceBEq, reduceCtorEq, reduceIte, f46, S_46, h]
theorem f29 (s t : List UInt8) : call T 29 [.str s, .str t] [] 0 = some ⟨if t.length ≤ s.length ∧ s.take t.length = t then .tup [.str (s.drop t.length), .bool true] else .tup [.str s, .bool false], [], []⟩ := by
  rw [call_code T_29]
  by_cases h : t.length ≤ s.length ∧ s.take t.length = t
  · simp only [r29_0, r29_1, F29, q29, go_sem, UInt8.reduceLT, UInt8.reduceLE, Int.reduceToNat, Int.reduceLE, Int.reduceLT, Int.reduceEq, Int.reduceNe, Int.reduceNeg, Int.reduceAdd, Int.reduceSub, Int.reduceMul, Nat.reducePow, Nat.reduceDiv, Nat.reduceMod, Nat.reduceAdd, Nat.reduceSub, Nat.reduceMul, Nat.reduceLT, Nat.reduceLeDiff, Nat.reduceEqDiff, Nat.reduceBEq, reduceCtorEq, reduceIte, f40, S_40, h]
  · simp only [r29_0, r29_1, F29, q29, go_sem, UInt8.reduceLT, UInt8.reduceLE, Int.reduceToNat, Int.reduceLE, Int.reduceLT, Int.reduceEq, Int.reduceNe, Int.reduceNeg, Int.reduceAdd, Int.reduceSub, Int.reduceMul, Nat.reducePow, Nat.reduceDiv, Nat.reduceMod, Nat.reduceAdd, Nat.reduceSub, Nat.reduceMul, Nat.reduceLT, Nat.reduceLeDiff, Nat.reduceEqDiff, Nat.reduceBEq, reduceCtorEq, reduceIte, f40, S_40, h]
def num : Nat → List UInt8 → Nat
  | n, [] => n
  | n, c :: r => num (n * 10 + (c.toNat - 48)) r
def digs : List UInt8 → Bool
  | [] => true
  | c :: r => if c < 48 then false else if 57 < c then false else digs r
theorem dig_sub (c : UInt8) (h1 : ¬ c < 48) (h2 : ¬ 57 < c) : (c - 48).toNat = c.toNat - 48 ∧ ¬ 9 < c - 48 ∧ c.toNat - 48 ≤ 9 := by
  have h1' : 48 ≤ c.toNat := by simpa [UInt8.lt_iff_toNat_lt] using h1
  have h2' : c.toNat ≤ 57 := by simpa [UInt8.lt_iff_toNat_lt] using h2
  have e : (c - 48).toNat = c.toNat - 48 := UInt8.toNat_sub_of_le c 48 (by simpa [UInt8.le_iff_toNat_le] using h1')
  refine ⟨e, ?_, by omega⟩
  rw [UInt8.lt_iff_toNat_lt, e]
  simp
  omega
def lim : Nat → Nat
  | 0 => 0
  | i + 1 => lim i * 10 + 9
theorem lim_le (i : Nat) (h : i ≤ 9) : lim i ≤ 999999999 := by
  have : i = 0 ∨ i = 1 ∨ i = 2 ∨ i = 3 ∨ i = 4 ∨ i = 5 ∨ i = 6 ∨ i = 7 ∨ i = 8 ∨ i = 9 := by omega
  rcases this with rfl | rfl | rfl | rfl | rfl | rfl | rfl | rfl | rfl | rfl <;> simp [lim]
theorem l47z (s0 s : List UInt8) (n : Nat) : run T (.loop r47_15) ⟨[(5, .str s0), (6, .int .i64 n), (47, .byt s .no), (48, .int .i64 s.length), (49, .int .i64 s.length)], [], []⟩ = some (.x 0, ⟨[(5, .str s0), (6, .int .i64 n)], [], []⟩) := by
  rw [run_loop]
  simp only [r47_0, r47_1, r47_2, r47_3, r47_4, r47_5, r47_6, r47_7, r47_8, r47_9, r47_10, r47_11, r47_12, r47_13, r47_14, r47_16, r47_17, r47_18, r47_19, r47_20, F47, q47_15, q47, go_sem, UInt8.reduceLT, UInt8.reduceLE, Int.reduceToNat, Int.reduceLE, Int.reduceLT, Int.reduceEq, Int.reduceNe, Int.reduceNeg, Int.reduceAdd, Int.reduceSub, Int.reduceMul, Nat.reducePow, Nat.reduceDiv, Nat.reduceMod, Nat.reduceAdd, Nat.reduceSub, Nat.reduceMul, Nat.reduceLT, Nat.reduceLeDiff, Nat.reduceEqDiff, Nat.reduceBEq, reduceCtorEq, reduceIte]
set_option maxHeartbeats 4000000 in
theorem l47 (s0 s : List UInt8) (hl : s.length ≤ 10) : ∀ (m i n : Nat), s.length - i = m → i ≤ s.length → n ≤ lim i → digs (s.drop i) = true →
    run T (.loop r47_15) ⟨[(5, .str s0), (6, .int .i64 n), (47, .byt s .no), (48, .int .i64 s.length), (49, .int .i64 i)], [], []⟩ = some (.x 0, ⟨[(5, .str s0), (6, .int .i64 (num n (s.drop i)))], [], []⟩) := by
  intro m
  induction m with
  | zero =>
    intro i n h0 h1 hn hd
    have hi : i = s.length := by clear hn; omega
    rw [hi, List.drop_length]
    exact l47z s0 s n
  | succ m ih =>
    intro i n h0 h1 hn hd
    have hi : i < s.length := by omega
    rw [drop_cons0 s i hi] at hd
    simp only [digs] at hd
    by_cases h2 : s.getD i 0 < 48
    · rw [if_pos h2] at hd; cases hd
    rw [if_neg h2] at hd
    by_cases h3 : 57 < s.getD i 0
    · rw [if_pos h3] at hd; cases hd
    rw [if_neg h3] at hd
    obtain ⟨d1, d2, d3⟩ := dig_sub _ h2 h3
    have hp : lim i ≤ 999999999 := lim_le i (by omega)
    have hn' : n * 10 + ((s.getD i 0).toNat - 48) ≤ lim (i + 1) := by simp only [lim]; omega
    have ih' := ih (i + 1) (n * 10 + ((s.getD i 0).toNat - 48)) (by omega) (by omega) hn' hd
    have e1 := wsucc i (by omega)
    have e2 : IntKind.i64.wrap ((n : Int) * 10) = ((n * 10 : Nat) : Int) := by rw [w64 (by omega) (by omega)]; omega
    have e3 : IntKind.i64.wrap (((n * 10 : Nat) : Int) + (((s.getD i 0).toNat - 48 : Nat) : Int)) = ((n * 10 + ((s.getD i 0).toNat - 48) : Nat) : Int) := by rw [w64 (by omega) (by omega)]; omega
    rw [run_loop, drop_cons0 s i hi]
    simp only [r47_0, r47_1, r47_2, r47_3, r47_4, r47_5, r47_6, r47_7, r47_8, r47_9, r47_10, r47_11, r47_12, r47_13, r47_14, r47_16, r47_17, r47_18, r47_19, r47_20, F47, q47_15, q47, go_sem, UInt8.reduceLT, UInt8.reduceLE, Int.reduceToNat, Int.reduceLE, Int.reduceLT, Int.reduceEq, Int.reduceNe, Int.reduceNeg, Int.reduceAdd, Int.reduceSub, Int.reduceMul, Nat.reducePow, Nat.reduceDiv, Nat.reduceMod, Nat.reduceAdd, Nat.reduceSub, Nat.reduceMul, Nat.reduceLT, Nat.reduceLeDiff, Nat.reduceEqDiff, Nat.reduceBEq, reduceCtorEq, reduceIte, hi, e1, e2, e3, d1, d2]
    show _ = some (Ex.x 0, CSt.mk [(5, .str s0), (6, .int .i64 ((num (n * 10 + ((s.getD i 0).toNat - 48)) (s.drop (i + 1)) : Nat) : Int))] [] [])
    exact ih'
end Go.Proofs.YtmekdaifojaoiaaDoor
