/-
  Lines that are drawn; the reference's patterns.
-/
import Derived.Test.YtmekdaifojaoiaaDoorJ
import Derived.Test.YtmekdaifojaoiaaDoorP2
set_option maxRecDepth 100000
set_option linter.unusedSimpArgs false
set_option linter.unusedVariables false
namespace Go.Proofs.YtmekdaifojaoiaaDoor
open Go.Sy Go.Glob

theorem nextV_lt (B : List UInt8) (i n : Nat) (h : 0 < n) : nextV B i n < n := by
  unfold nextV
  split
  · exact Nat.mod_lt _ h
  · exact h
theorem nextA_le2 (L : List UInt8) (j : Nat) (h : j ≤ L.length) : nextA L j ≤ L.length := by
  unfold nextA
  split <;> omega
def lix (u v : Nat) : Int := ibits .andNot .i64 (ibits .and .i64 u 3) (IntKind.i64.wrap (2 * v))
theorem lix_ok : ∀ u, u < 4 → ∀ v, v < 2 → 0 ≤ lix u v ∧ lix u v < 4 := by decide
set_option maxHeartbeats 4000000 in
theorem l19 (B : List UInt8) (hB : B.length ≤ 1000) : ∀ (n i : Nat) (acc : List UInt8), B.length - i ≤ n → i ≤ B.length → acc.length + n ≤ 1000 →
    ∃ t j, t.length ≤ n ∧ run T (.loop r19_5) ⟨[(5, .ptr 10100 0), (6, .byt acc (.id 106))], [(10100, .rc [.byt B .no, .int .i64 i])], [106]⟩ =
    some (.x 0, ⟨[(6, .byt (acc ++ t) (.id 106))], [(10100, .rc [.byt B .no, .int .i64 (j : Nat)])], [106]⟩) := by
  intro n
  induction n with
  | zero =>
    intro i acc h0 h1 ha
    have hi : i = B.length := by omega
    subst hi
    refine ⟨[], B.length, by simp, ?_⟩
    rw [run_loop]
    have g1 := f27 B B.length
    simp only [codesO] at g1
    simp only [r19_0, r19_1, r19_2, r19_3, r19_4, r19_6, F19, q19_5, q19, go_sem, UInt8.reduceLT, UInt8.reduceLE, Int.reduceToNat, Int.reduceLE, Int.reduceLT, Int.reduceEq, Int.reduceNe, Int.reduceNeg, Int.reduceAdd, Int.reduceSub, Int.reduceMul, Nat.reducePow, Nat.reduceDiv, Nat.reduceMod, Nat.reduceAdd, Nat.reduceSub, Nat.reduceMul, Nat.reduceLT, Nat.reduceLeDiff, Nat.reduceEqDiff, Nat.reduceBEq, reduceCtorEq, reduceIte, g1, S_27, List.append_nil]
  | succ n ih =>
    intro i acc h0 h1 ha
    have g1 := f27 B i
    simp only [codesO] at g1
    by_cases hi : i < B.length
    · have g2 := f22 B i 4 (by omega) (by omega)
      have g3 := f22 B (nextA B i) 2 (by omega) (by omega)
      have hA : nextA B i = i + 1 := by unfold nextA; rw [if_pos hi]
      have hu := nextV_lt B i 4 (by omega)
      have hv := nextV_lt B (nextA B i) 2 (by omega)
      have hle := nextA_le2 B (nextA B i) (by omega)
      have hge : i + 1 ≤ nextA B (nextA B i) := by rw [hA]; unfold nextA; split <;> omega
      have c4 : ((4 : Nat) : Int) = 4 := rfl
      have c2 : ((2 : Nat) : Int) = 2 := rfl
      simp only [codesO] at g2 g3
      rw [c4] at g2
      rw [c2] at g3
      obtain ⟨q1, q2⟩ := lix_ok _ hu _ hv
      generalize nextV B i 4 = u at *
      generalize nextV B (nextA B i) 2 = v at *
      have hx : lix u v = ((lix u v).toNat : Nat) := by omega
      obtain ⟨w, hw⟩ : ∃ w, lix u v = ((w : Nat) : Int) := ⟨_, hx⟩
      unfold lix at hw q1 q2
      rw [hw] at q1 q2
      have hw4 : w < 4 := by omega
      obtain ⟨t, j, t1, t2⟩ := ih (nextA B (nextA B i)) (acc ++ [List.getD [97, 98, 42, 63] w 0]) (by omega) hle (by simp; omega)
      have hc : acc.length + 1 ≤ 140737488355328 := by omega
      refine ⟨List.getD [97, 98, 42, 63] w 0 :: t, j, by simp; omega, ?_⟩
      rw [run_loop]
      simp only [List.append_assoc, List.cons_append, List.nil_append] at t2
      simp only [r19_0, r19_1, r19_2, r19_3, r19_4, r19_6, F19, q19_5, q19, go_sem, UInt8.reduceLT, UInt8.reduceLE, Int.reduceToNat, Int.reduceLE, Int.reduceLT, Int.reduceEq, Int.reduceNe, Int.reduceNeg, Int.reduceAdd, Int.reduceSub, Int.reduceMul, Nat.reducePow, Nat.reduceDiv, Nat.reduceMod, Nat.reduceAdd, Nat.reduceSub, Nat.reduceMul, Nat.reduceLT, Nat.reduceLeDiff, Nat.reduceEqDiff, Nat.reduceBEq, reduceCtorEq, reduceIte, g1, g2, g3, S_27, S_22, hi, hw, hw4, hc, t2]
    · refine ⟨[], i, by simp, ?_⟩
      rw [run_loop]
      simp only [r19_0, r19_1, r19_2, r19_3, r19_4, r19_6, F19, q19_5, q19, go_sem, UInt8.reduceLT, UInt8.reduceLE, Int.reduceToNat, Int.reduceLE, Int.reduceLT, Int.reduceEq, Int.reduceNe, Int.reduceNeg, Int.reduceAdd, Int.reduceSub, Int.reduceMul, Nat.reducePow, Nat.reduceDiv, Nat.reduceMod, Nat.reduceAdd, Nat.reduceSub, Nat.reduceMul, Nat.reduceLT, Nat.reduceLeDiff, Nat.reduceEqDiff, Nat.reduceBEq, reduceCtorEq, reduceIte, g1, S_27, hi, List.append_nil]
theorem f19 (B : List UInt8) (n : Nat) (hn : n ≤ 1000) : ∃ l : List UInt8, l.length ≤ n ∧ call T 19 [.byt B .no, .int .i64 n] [] 0 = some ⟨.byt l .no, [], []⟩ := by
  have g0 := f12 B n
  have hl : (B.take n).length ≤ n := by simp; omega
  obtain ⟨t, j, t1, t2⟩ := l19 (B.take n) (by omega) n 0 [] (by omega) (by omega) (by simp; omega)
  refine ⟨t, t1, ?_⟩
  rw [call_code T_19]
  simp only [codesO] at g0
  simp only [Int.natCast_zero, List.nil_append] at g0 t2
  simp only [r19_0, r19_1, r19_2, r19_3, r19_4, r19_6, F19, q19_5, q19, go_sem, UInt8.reduceLT, UInt8.reduceLE, Int.reduceToNat, Int.reduceLE, Int.reduceLT, Int.reduceEq, Int.reduceNe, Int.reduceNeg, Int.reduceAdd, Int.reduceSub, Int.reduceMul, Nat.reducePow, Nat.reduceDiv, Nat.reduceMod, Nat.reduceAdd, Nat.reduceSub, Nat.reduceMul, Nat.reduceLT, Nat.reduceLeDiff, Nat.reduceEqDiff, Nat.reduceBEq, reduceCtorEq, reduceIte, g0, S_12, t2]

/-- A row of bools. -/
def bl (f : Nat → Bool) (n : Nat) : List (List SV) := (List.range n).map fun i => [.bool (f i)]
theorem bl_len (f : Nat → Bool) (n : Nat) : (bl f n).length = n := by simp [bl]
theorem bl_get (f : Nat → Bool) (n i : Nat) (h : i < n) : (bl f n).getD i [] = [.bool (f i)] := by
  simp [bl, List.getD_eq_getElem?_getD, List.getElem?_map, List.getElem?_range h]
theorem bl_congr {f g : Nat → Bool} {n : Nat} (h : ∀ i, i < n → f i = g i) : bl f n = bl g n := by
  unfold bl
  exact List.map_congr_left fun i hi => by rw [h i (List.mem_range.1 hi)]
theorem bl_rep (n : Nat) : List.replicate n [SV.bool false] = bl (fun _ => false) n := by
  unfold bl
  rw [List.map_const']
  simp
theorem bl_set (f : Nat → Bool) (n i : Nat) (b : Bool) : (bl f n).set i [.bool b] = bl (fun j => if j = i then b else f j) n := by
  apply List.ext_getElem
  · simp [bl]
  · intro k h1 h2
    simp only [bl, List.getElem_set, List.getElem_map, List.getElem_range]
    by_cases h : i = k
    · rw [if_pos h, if_pos h.symm]
    · rw [if_neg h, if_neg (fun e => h e.symm)]
/-- The row that is being made, up to i. -/
def nx (P L : List UInt8) (k i : Nat) : Nat → Bool := fun j => decide (j < i) && rw1 P L (k + 1) j
theorem nx_lt {P L : List UInt8} {k i j : Nat} (h : j < i) : nx P L k i j = rw1 P L (k + 1) j := by unfold nx; rw [decide_eq_true h, Bool.true_and]
theorem nx_0 (P L : List UInt8) (k n : Nat) : bl (nx P L k 0) n = bl (fun _ => false) n := bl_congr fun j _ => by simp [nx]
theorem nx_set {P L : List UInt8} {k i n : Nat} {b : Bool} (hb : rw1 P L (k + 1) i = b) : (bl (nx P L k i) n).set i [.bool b] = bl (nx P L k (i + 1)) n := by
  rw [bl_set]
  refine bl_congr fun j _ => ?_
  unfold nx
  by_cases h : j = i
  · subst h; rw [if_pos rfl, hb]; simp
  · rw [if_neg h]
    by_cases h2 : j < i
    · rw [decide_eq_true h2, decide_eq_true (by omega : j < i + 1)]
    · rw [decide_eq_false h2, decide_eq_false (by omega : ¬ j < i + 1)]
theorem nx_keep {P L : List UInt8} {k i n : Nat} (hb : rw1 P L (k + 1) i = false) : bl (nx P L k i) n = bl (nx P L k (i + 1)) n := by
  refine bl_congr fun j _ => ?_
  unfold nx
  by_cases h : j = i
  · subst h; rw [hb]; simp
  · by_cases h2 : j < i
    · rw [decide_eq_true h2, decide_eq_true (by omega : j < i + 1)]
    · rw [decide_eq_false h2, decide_eq_false (by omega : ¬ j < i + 1)]
set_option maxHeartbeats 16000000 in
theorem l21a (P L : List UInt8) (k : Nat) (hk : k < P.length) (hL : L.length ≤ 1000000000000) : ∀ (n i : Nat), L.length + 1 - i = n → i ≤ L.length + 1 →
    run T (.loop r21_13) ⟨[(0, .str P), (1, .byt L .no), (5, .lst 1 (bl (rw1 P L k) (L.length + 1)) .clip), (6, .int .i64 k), (7, .psl 124 1 0 (L.length + 1) (some (L.length + 1))), (8, .int .i64 i)], [(124, .arr 1 (bl (nx P L k i) (L.length + 1)))], []⟩ =
    some (.x 2, ⟨[(0, .str P), (1, .byt L .no), (6, .int .i64 k), (7, .psl 124 1 0 (L.length + 1) (some (L.length + 1)))], [(124, .arr 1 (bl (rw1 P L (k + 1)) (L.length + 1)))], []⟩) := by
  intro n
  induction n with
  | zero =>
    intro i h0 h1
    have hi : i = L.length + 1 := by omega
    subst hi
    have e : bl (nx P L k (L.length + 1)) (L.length + 1) = bl (rw1 P L (k + 1)) (L.length + 1) := bl_congr fun j hj => nx_lt hj
    have c : ¬ (L.length + 1) ≤ L.length := by omega
    rw [run_loop]
    simp only [r21_0, r21_1, r21_2, r21_3, r21_4, r21_5, r21_6, r21_7, r21_8, r21_9, r21_10, r21_11, r21_12, r21_14, r21_15, r21_17, F21, q21_13, q21_16, q21, go_sem, UInt8.reduceLT, UInt8.reduceLE, Int.reduceToNat, Int.reduceLE, Int.reduceLT, Int.reduceEq, Int.reduceNe, Int.reduceNeg, Int.reduceAdd, Int.reduceSub, Int.reduceMul, Nat.reducePow, Nat.reduceDiv, Nat.reduceMod, Nat.reduceAdd, Nat.reduceSub, Nat.reduceMul, Nat.reduceLT, Nat.reduceLeDiff, Nat.reduceEqDiff, Nat.reduceBEq, reduceCtorEq, reduceIte, c, e]
  | succ n ih =>
    intro i h0 h1
    have hi : i ≤ L.length := by omega
    have hi2 : i < L.length + 1 := by omega
    have hi3 : ((i : Nat) : Int) < ((L.length + 1 : Nat) : Int) := by omega
    have e1 := wsucc i (by omega)
    have ih' := ih (i + 1) (by omega) (by omega)
    have hg := bl_get (rw1 P L k) (L.length + 1) i hi2
    have hlen := bl_len (rw1 P L k) (L.length + 1)
    have hlen2 := bl_len (nx P L k i) (L.length + 1)
    rw [run_loop]
    by_cases h42 : P.getD k 0 = 42
    · have hs := rw1_star P L k i hk hi h42
      cases hr : rw1 P L k i with
      | true =>
        rw [hr, Bool.true_or] at hs
        rw [hr] at hg
        have hset := nx_set (n := L.length + 1) hs
        simp only [r21_0, r21_1, r21_2, r21_3, r21_4, r21_5, r21_6, r21_7, r21_8, r21_9, r21_10, r21_11, r21_12, r21_14, r21_15, r21_17, F21, q21_13, q21_16, q21, go_sem, UInt8.reduceLT, UInt8.reduceLE, Int.reduceToNat, Int.reduceLE, Int.reduceLT, Int.reduceEq, Int.reduceNe, Int.reduceNeg, Int.reduceAdd, Int.reduceSub, Int.reduceMul, Nat.reducePow, Nat.reduceDiv, Nat.reduceMod, Nat.reduceAdd, Nat.reduceSub, Nat.reduceMul, Nat.reduceLT, Nat.reduceLeDiff, Nat.reduceEqDiff, Nat.reduceBEq, reduceCtorEq, reduceIte, hi, hi2, hi3, hk, h42, hg, hlen, hlen2, hset, e1, ih']
      | false =>
        rw [hr, Bool.false_or] at hs
        rw [hr] at hg
        by_cases hp : 0 < i
        · have hp' : (0 : Int) < (i : Int) := by omega
          rw [decide_eq_true hp, Bool.true_and] at hs
          have hset := nx_set (n := L.length + 1) hs
          have e2 : IntKind.i64.wrap ((i : Int) - 1) = ((i - 1 : Nat) : Int) := by rw [w64 (by omega) (by omega)]; omega
          have hg2 := bl_get (nx P L k i) (L.length + 1) (i - 1) (by omega)
          rw [nx_lt (by omega)] at hg2
          have hi4 : i - 1 < L.length + 1 := by omega
          simp only [r21_0, r21_1, r21_2, r21_3, r21_4, r21_5, r21_6, r21_7, r21_8, r21_9, r21_10, r21_11, r21_12, r21_14, r21_15, r21_17, F21, q21_13, q21_16, q21, go_sem, UInt8.reduceLT, UInt8.reduceLE, Int.reduceToNat, Int.reduceLE, Int.reduceLT, Int.reduceEq, Int.reduceNe, Int.reduceNeg, Int.reduceAdd, Int.reduceSub, Int.reduceMul, Nat.reducePow, Nat.reduceDiv, Nat.reduceMod, Nat.reduceAdd, Nat.reduceSub, Nat.reduceMul, Nat.reduceLT, Nat.reduceLeDiff, Nat.reduceEqDiff, Nat.reduceBEq, reduceCtorEq, reduceIte, hi, hi2, hi3, hi4, hk, h42, hg, hg2, hp, hp', hlen, hlen2, hset, e1, e2, ih']
        · have hp' : ¬ (0 : Int) < (i : Int) := by omega
          rw [decide_eq_false hp, Bool.false_and] at hs
          have hset := nx_set (n := L.length + 1) hs
          simp only [r21_0, r21_1, r21_2, r21_3, r21_4, r21_5, r21_6, r21_7, r21_8, r21_9, r21_10, r21_11, r21_12, r21_14, r21_15, r21_17, F21, q21_13, q21_16, q21, go_sem, UInt8.reduceLT, UInt8.reduceLE, Int.reduceToNat, Int.reduceLE, Int.reduceLT, Int.reduceEq, Int.reduceNe, Int.reduceNeg, Int.reduceAdd, Int.reduceSub, Int.reduceMul, Nat.reducePow, Nat.reduceDiv, Nat.reduceMod, Nat.reduceAdd, Nat.reduceSub, Nat.reduceMul, Nat.reduceLT, Nat.reduceLeDiff, Nat.reduceEqDiff, Nat.reduceBEq, reduceCtorEq, reduceIte, hi, hi2, hi3, hk, h42, hg, hp, hp', hlen, hlen2, hset, e1, ih']
    · by_cases hp : 0 < i
      · have hp' : (0 : Int) < (i : Int) := by omega
        have e2 : IntKind.i64.wrap ((i : Int) - 1) = ((i - 1 : Nat) : Int) := by rw [w64 (by omega) (by omega)]; omega
        have hs := rw1_byte P L k (i - 1) hk (by omega) h42
        rw [show i - 1 + 1 = i from by omega] at hs
        have hg2 := bl_get (rw1 P L k) (L.length + 1) (i - 1) (by omega)
        have hi4 : i - 1 < L.length + 1 := by omega
        have hi5 : i - 1 < L.length := by omega
        cases hr : rw1 P L k (i - 1) with
        | false =>
          rw [hr] at hs hg2
          rw [Bool.false_and] at hs
          have hset := nx_set (n := L.length + 1) hs
          simp only [r21_0, r21_1, r21_2, r21_3, r21_4, r21_5, r21_6, r21_7, r21_8, r21_9, r21_10, r21_11, r21_12, r21_14, r21_15, r21_17, F21, q21_13, q21_16, q21, go_sem, UInt8.reduceLT, UInt8.reduceLE, Int.reduceToNat, Int.reduceLE, Int.reduceLT, Int.reduceEq, Int.reduceNe, Int.reduceNeg, Int.reduceAdd, Int.reduceSub, Int.reduceMul, Nat.reducePow, Nat.reduceDiv, Nat.reduceMod, Nat.reduceAdd, Nat.reduceSub, Nat.reduceMul, Nat.reduceLT, Nat.reduceLeDiff, Nat.reduceEqDiff, Nat.reduceBEq, reduceCtorEq, reduceIte, hi, hi2, hi3, hi4, hi5, hk, h42, hg2, hp, hp', hlen, hlen2, hset, e1, e2, ih']
        | true =>
          rw [hr] at hs hg2
          rw [Bool.true_and] at hs
          by_cases h63 : P.getD k 0 = 63
          · rw [decide_eq_true h63, Bool.true_or] at hs
            have hset := nx_set (n := L.length + 1) hs
            have c63 : ¬ (63 : UInt8) = 42 := by decide
            simp only [r21_0, r21_1, r21_2, r21_3, r21_4, r21_5, r21_6, r21_7, r21_8, r21_9, r21_10, r21_11, r21_12, r21_14, r21_15, r21_17, F21, q21_13, q21_16, q21, go_sem, UInt8.reduceLT, UInt8.reduceLE, Int.reduceToNat, Int.reduceLE, Int.reduceLT, Int.reduceEq, Int.reduceNe, Int.reduceNeg, Int.reduceAdd, Int.reduceSub, Int.reduceMul, Nat.reducePow, Nat.reduceDiv, Nat.reduceMod, Nat.reduceAdd, Nat.reduceSub, Nat.reduceMul, Nat.reduceLT, Nat.reduceLeDiff, Nat.reduceEqDiff, Nat.reduceBEq, reduceCtorEq, reduceIte, hi, hi2, hi3, hi4, hi5, hk, h63, c63, hg2, hp, hp', hlen, hlen2, hset, e1, e2, ih']
          · rw [decide_eq_false h63, Bool.false_or] at hs
            have hset := nx_set (n := L.length + 1) hs
            simp only [r21_0, r21_1, r21_2, r21_3, r21_4, r21_5, r21_6, r21_7, r21_8, r21_9, r21_10, r21_11, r21_12, r21_14, r21_15, r21_17, F21, q21_13, q21_16, q21, go_sem, UInt8.reduceLT, UInt8.reduceLE, Int.reduceToNat, Int.reduceLE, Int.reduceLT, Int.reduceEq, Int.reduceNe, Int.reduceNeg, Int.reduceAdd, Int.reduceSub, Int.reduceMul, Nat.reducePow, Nat.reduceDiv, Nat.reduceMod, Nat.reduceAdd, Nat.reduceSub, Nat.reduceMul, Nat.reduceLT, Nat.reduceLeDiff, Nat.reduceEqDiff, Nat.reduceBEq, reduceCtorEq, reduceIte, hi, hi2, hi3, hi4, hi5, hk, h42, h63, hg2, hp, hp', hlen, hlen2, hset, e1, e2, ih']
      · have hp' : ¬ (0 : Int) < (i : Int) := by omega
        have hi0 : i = 0 := by omega
        have hs : rw1 P L (k + 1) i = false := by rw [hi0]; exact rw1_byte0 P L k hk h42
        rw [← nx_keep hs] at ih'
        simp only [r21_0, r21_1, r21_2, r21_3, r21_4, r21_5, r21_6, r21_7, r21_8, r21_9, r21_10, r21_11, r21_12, r21_14, r21_15, r21_17, F21, q21_13, q21_16, q21, go_sem, UInt8.reduceLT, UInt8.reduceLE, Int.reduceToNat, Int.reduceLE, Int.reduceLT, Int.reduceEq, Int.reduceNe, Int.reduceNeg, Int.reduceAdd, Int.reduceSub, Int.reduceMul, Nat.reducePow, Nat.reduceDiv, Nat.reduceMod, Nat.reduceAdd, Nat.reduceSub, Nat.reduceMul, Nat.reduceLT, Nat.reduceLeDiff, Nat.reduceEqDiff, Nat.reduceBEq, reduceCtorEq, reduceIte, hi, hi2, hi3, hk, h42, hp, hp', e1, ih']
theorem l21b (P L : List UInt8) (hP : P.length ≤ 1000000000000) (hL : L.length ≤ 1000000000000) : ∀ (n k : Nat), P.length - k = n → k ≤ P.length →
    run T (.loop r21_16) ⟨[(0, .str P), (1, .byt L .no), (5, .lst 1 (bl (rw1 P L k) (L.length + 1)) .clip), (6, .int .i64 k)], [], []⟩ =
    some (.x 0, ⟨[(1, .byt L .no), (5, .lst 1 (bl (rw1 P L P.length) (L.length + 1)) .clip)], [], []⟩) := by
  intro n
  induction n with
  | zero =>
    intro k h0 h1
    have hk : k = P.length := by omega
    subst hk
    rw [run_loop]
    simp only [r21_0, r21_1, r21_2, r21_3, r21_4, r21_5, r21_6, r21_7, r21_8, r21_9, r21_10, r21_11, r21_12, r21_14, r21_15, r21_17, F21, q21_13, q21_16, q21, go_sem, UInt8.reduceLT, UInt8.reduceLE, Int.reduceToNat, Int.reduceLE, Int.reduceLT, Int.reduceEq, Int.reduceNe, Int.reduceNeg, Int.reduceAdd, Int.reduceSub, Int.reduceMul, Nat.reducePow, Nat.reduceDiv, Nat.reduceMod, Nat.reduceAdd, Nat.reduceSub, Nat.reduceMul, Nat.reduceLT, Nat.reduceLeDiff, Nat.reduceEqDiff, Nat.reduceBEq, reduceCtorEq, reduceIte]
  | succ n ih =>
    intro k h0 h1
    have hk : k < P.length := by omega
    have e1 := wsucc k (by omega)
    have e2 := wsucc L.length (by omega)
    have c1 : ((1 : Nat) : Int) = 1 := rfl
    have ih' := ih (k + 1) (by omega) (by omega)
    have h := l21a P L k hk hL _ 0 rfl (by omega)
    rw [nx_0, ← bl_rep] at h
    have hb : ((L.length + 1 : Nat) : Int) ≤ 9223372036854775807 := by omega
    have hb2 : ((L.length + 1 : Nat) : Int) ≤ 140737488355328 := by omega
    have hlen := bl_len (rw1 P L (k + 1)) (L.length + 1)
    have ht : (bl (rw1 P L (k + 1)) (L.length + 1)).take (L.length + 1) = bl (rw1 P L (k + 1)) (L.length + 1) := List.take_of_length_le (by rw [hlen]; omega)
    rw [run_loop]
    simp only [Int.natCast_zero] at h
    simp only [r21_0, r21_1, r21_2, r21_3, r21_4, r21_5, r21_6, r21_7, r21_8, r21_9, r21_10, r21_11, r21_12, r21_14, r21_15, r21_17, F21, q21_13, q21_16, q21, go_sem, UInt8.reduceLT, UInt8.reduceLE, Int.reduceToNat, Int.reduceLE, Int.reduceLT, Int.reduceEq, Int.reduceNe, Int.reduceNeg, Int.reduceAdd, Int.reduceSub, Int.reduceMul, Nat.reducePow, Nat.reduceDiv, Nat.reduceMod, Nat.reduceAdd, Nat.reduceSub, Nat.reduceMul, Nat.reduceLT, Nat.reduceLeDiff, Nat.reduceEqDiff, Nat.reduceBEq, reduceCtorEq, reduceIte, hk, e1, e2, hb, hb2, c1, Int.one_mul, h, hlen, ht, ih']
theorem f21 (P L : List UInt8) (hP : P.length ≤ 1000000000000) (hL : L.length ≤ 1000000000000) : call T 21 [.str P, .byt L .no] [] 0 = some ⟨.bool (gl P L), [], []⟩ := by
  rw [call_code T_21]
  have e2 := wsucc L.length (by omega)
  have c1 : ((1 : Nat) : Int) = 1 := rfl
  have h := l21b P L hP hL _ 0 rfl (by omega)
  have hb : ((L.length + 1 : Nat) : Int) ≤ 9223372036854775807 := by omega
  have hb2 : ((L.length + 1 : Nat) : Int) ≤ 140737488355328 := by omega
  have hb3 : (0 : Int) < ((L.length + 1 : Nat) : Int) := by omega
  have h0 : 0 < L.length + 1 := by omega
  have hset : (bl (fun _ => false) (L.length + 1)).set 0 [.bool true] = bl (rw1 P L 0) (L.length + 1) := by
    rw [bl_set]
    exact bl_congr fun i hi => by rw [rw1_00 P L i (by omega)]; by_cases hi0 : i = 0 <;> simp [hi0]
  have hset2 : (List.replicate (L.length + 1) [SV.bool false]).set 0 [.bool true] = bl (rw1 P L 0) (L.length + 1) := by rw [bl_rep]; exact hset
  have hlen := bl_len (rw1 P L 0) (L.length + 1)
  have ht : (bl (rw1 P L 0) (L.length + 1)).take (L.length + 1) = bl (rw1 P L 0) (L.length + 1) := List.take_of_length_le (by rw [hlen]; omega)
  have hlen2 := bl_len (rw1 P L P.length) (L.length + 1)
  have hg := bl_get (rw1 P L P.length) (L.length + 1) L.length (by omega)
  rw [rw1_end] at hg
  have hl2 : L.length < L.length + 1 := by omega
  simp only [Int.natCast_zero] at h
  simp only [r21_0, r21_1, r21_2, r21_3, r21_4, r21_5, r21_6, r21_7, r21_8, r21_9, r21_10, r21_11, r21_12, r21_14, r21_15, r21_17, F21, q21_13, q21_16, q21, go_sem, UInt8.reduceLT, UInt8.reduceLE, Int.reduceToNat, Int.reduceLE, Int.reduceLT, Int.reduceEq, Int.reduceNe, Int.reduceNeg, Int.reduceAdd, Int.reduceSub, Int.reduceMul, Nat.reducePow, Nat.reduceDiv, Nat.reduceMod, Nat.reduceAdd, Nat.reduceSub, Nat.reduceMul, Nat.reduceLT, Nat.reduceLeDiff, Nat.reduceEqDiff, Nat.reduceBEq, reduceCtorEq, reduceIte, e2, hb, hb2, hb3, h0, c1, Int.one_mul, h, hlen, hlen2, ht, hset2, hg, hl2]
end Go.Proofs.YtmekdaifojaoiaaDoor
