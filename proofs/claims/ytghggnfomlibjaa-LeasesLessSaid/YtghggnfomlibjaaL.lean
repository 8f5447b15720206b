/-
  The laws of grants, of holds, of sweeps.
-/
import Derived.Test.YtghggnfomlibjaaS
set_option maxRecDepth 100000
set_option linter.unusedSimpArgs false
set_option linter.unusedVariables false
namespace Go.Proofs.Ytghggnfomlibjaa
open Go.Sy

theorem modI_range (a b : Int) (hb : 1 ≤ b) : 0 ≤ modI a b ∧ modI a b < b := by
  unfold modI
  rw [if_neg (by omega)]
  have h1 := Int.lt_tmod_of_pos a (b := b) (by omega)
  have h2 := Int.tmod_lt_of_pos a (b := b) (by omega)
  split <;> omega
theorem grant_wf' (l : Ls) (hl : WF l) (m now : Int) (g : List (List UInt8)) (hg : okG g) : WF (grantR l m now g).1 := by
  by_cases h : (grantR l m now g).2 = 0
  · exact grant_wf l hl m now g hg h
  · unfold grantR at h ⊢
    split
    · exact WF.nil
    · split
      · exact WF.nil
      · split
        · exact WF.nil
        · rename_i h1 h2 h3
          rw [if_neg h1, if_neg h2, if_neg h3] at h
          exact absurd rfl h
theorem rel_wf' (l : Ls) (hl : WF l) (m : Int) : WF (relR l m).1 := by
  by_cases h : (relR l m).2 = 0
  · exact rel_wf l hl m h
  · unfold relR at h ⊢
    split
    · exact WF.nil
    · split
      · exact WF.nil
      · rename_i h1 h2
        rw [if_neg h1, if_neg h2] at h
        exact absurd rfl h
theorem lsv (l : Ls) : l.sv = .agg [.lst 3 (l.ls.map Lease.sv) .no, .lst 3 (l.hs.map Hold.sv) .no] := rfl
theorem f3 (c m : List UInt8) (k n : Int) (hk : IntKind.i64.has k) (hn : IntKind.i64.has n) (any : Bool) : call T 3 [.byt c .no, .byt m .no, .int .i64 k, .int .i64 n, .bool any] [] 0 = some ⟨.bool true, [], []⟩ := by
  obtain ⟨l, now, hl, h0, h1, h9⟩ := f9 c
  have hl1 := hl.len
  have hl2 := hl.len2
  have hk' : -9223372036854775808 ≤ k ∧ k ≤ 9223372036854775807 := hk
  have hn' : -9223372036854775808 ≤ n ∧ n ≤ 9223372036854775807 := hn
  have g1 := f12 m 10
  have c10 : ((10 : Nat) : Int) = 10 := rfl
  rw [c10] at g1
  have hB : (m.take 10).length ≤ 10 := by simp; omega
  have g2 := f11 (m.take 10) (by omega) 0
  have hg := grd_ok (m.take 10) 0
  have r2 := modI_range n 30 (by omega)
  have g4 := f10 k 6 hk'.1 hk'.2 (by omega)
  have g5 := f10 n 30 hn'.1 hn'.2 (by omega)
  have e1 : IntKind.i64.wrap (now + modI n 30) = now + modI n 30 := w64 (by omega) (by omega)
  have main : ∀ m' n' : Int, (call T 13 [l.sv, .int .i64 m', .int .i64 n', gsSV (grd (m.take 10) 0)] [] 0 = some ⟨errV (grantR l m' n' (grd (m.take 10) 0)).1 (grantR l m' n' (grd (m.take 10) 0)).2, [], []⟩) ∧
      (call T 14 [l.sv, .int .i64 m', .int .i64 n', gsSV (grd (m.take 10) 0)] [] 0 = some ⟨errV (grantR l m' n' (grd (m.take 10) 0)).1 (grantR l m' n' (grd (m.take 10) 0)).2, [], []⟩) ∧
      (call T 15 [(grantR l m' n' (grd (m.take 10) 0)).1.sv, (grantR l m' n' (grd (m.take 10) 0)).1.sv] [] 0 = some ⟨.bool true, [], []⟩) := by
    intro m' n'
    refine ⟨?_, f14 l m' n' _ (by omega) (by omega), ?_⟩
    · rw [← grant_eq l hl]; exact f13 l hl m' n' _
    · have hw := grant_wf' l hl m' n' _ hg
      have hw2 := hw.len2
      have := f15 _ (grantR l m' n' (grd (m.take 10) 0)).1 hw.ok (by omega)
      simpa using this
  rw [call_code T_3]
  simp only [codesO, Int.natCast_zero, errV, gsSV, lsv] at g1 g2 main h9
  cases any with
  | true =>
    obtain ⟨m1, m2, m3⟩ := main k n
    simp only [r3_0, r3_1, r3_2, r3_3, r3_4, r3_5, r3_6, r3_7, r3_8, r3_9, F3, q3, go_sem, Int.reduceToNat, Int.reduceLE, Int.reduceLT, Int.reduceEq, Int.reduceNe, Int.reduceNeg, Int.reduceAdd, Int.reduceSub, Int.reduceMul, Nat.reducePow, Nat.reduceDiv, Nat.reduceMod, Nat.reduceAdd, Nat.reduceSub, Nat.reduceMul, Nat.reduceLT, Nat.reduceLeDiff, Nat.reduceEqDiff, Nat.reduceBEq, reduceCtorEq, reduceIte, f8, S_8, h9, S_9, g1, S_12, g2, S_11, m1, m2, m3, S_13, S_14, S_15]
  | false =>
    obtain ⟨m1, m2, m3⟩ := main (modI k 6) (now + modI n 30)
    simp only [r3_0, r3_1, r3_2, r3_3, r3_4, r3_5, r3_6, r3_7, r3_8, r3_9, F3, q3, go_sem, Int.reduceToNat, Int.reduceLE, Int.reduceLT, Int.reduceEq, Int.reduceNe, Int.reduceNeg, Int.reduceAdd, Int.reduceSub, Int.reduceMul, Nat.reducePow, Nat.reduceDiv, Nat.reduceMod, Nat.reduceAdd, Nat.reduceSub, Nat.reduceMul, Nat.reduceLT, Nat.reduceLeDiff, Nat.reduceEqDiff, Nat.reduceBEq, reduceCtorEq, reduceIte, f8, S_8, h9, S_9, g1, S_12, g2, S_11, g4, g5, S_10, e1, m1, m2, m3, S_13, S_14, S_15]
theorem f4 (c : List UInt8) (k n e : Int) (hk : IntKind.i64.has k) (any : Bool) : call T 4 [.byt c .no, .int .i64 k, .int .i64 n, .int .i64 e, .bool any] [] 0 = some ⟨.bool true, [], []⟩ := by
  obtain ⟨l, now, hl, h0, h1, h9⟩ := f9 c
  have hl1 := hl.len
  have hl2 := hl.len2
  have hk' : -9223372036854775808 ≤ k ∧ k ≤ 9223372036854775807 := hk
  have g4 := f10 k 6 hk'.1 hk'.2 (by omega)
  have main : ∀ m' : Int, (call T 16 [l.sv, .int .i64 m'] [] 0 = some ⟨errV (relR l m').1 (relR l m').2, [], []⟩) ∧
      (call T 17 [l.sv, .int .i64 m'] [] 0 = some ⟨errV (relR l m').1 (relR l m').2, [], []⟩) ∧
      (call T 15 [(relR l m').1.sv, (relR l m').1.sv] [] 0 = some ⟨.bool true, [], []⟩) ∧
      (call T 18 [l.sv, .int .i64 m', .int .i64 e, .int .i64 n] [] 0 = some ⟨(holdR l m' e n).sv, [], []⟩) ∧
      (call T 19 [l.sv, .int .i64 m', .int .i64 e, .int .i64 n] [] 0 = some ⟨(holdR l m' e n).sv, [], []⟩) ∧
      (call T 15 [(holdR l m' e n).sv, (holdR l m' e n).sv] [] 0 = some ⟨.bool true, [], []⟩) ∧
      (call T 20 [l.sv, .int .i64 m'] [] 0 = some ⟨.bool ((l.hs.map Hold.m).contains m'), [], []⟩) ∧
      (call T 21 [l.sv, .int .i64 m'] [] 0 = some ⟨.bool ((l.hs.map Hold.m).contains m'), [], []⟩) := by
    intro m'
    refine ⟨?_, f17 l m' (by omega), ?_, ?_, f19 l m' e n (by omega) (by omega), ?_, ?_, f21 l m' (by omega)⟩
    · rw [← rel_eq l hl]; exact f16 l m' hl.s2 (by omega)
    · have hw := rel_wf' l hl m'
      have hw2 := hw.len2
      have := f15 _ (relR l m').1 hw.ok (by omega)
      simpa using this
    · rw [← hold_eq l hl]; exact f18 l hl m' e n
    · have hw := hold_wf l hl m' e n
      have hw2 := hw.len2
      have := f15 _ (holdR l m' e n) hw.ok (by omega)
      simpa using this
    · rw [← has_contains _ _ hl.s2]; exact f20 l m' hl.s2 (by omega)
  rw [call_code T_4]
  simp only [errV, lsv] at main h9
  cases any with
  | true =>
    obtain ⟨m1, m2, m3, m4, m5, m6, m7, m8⟩ := main k
    simp only [r4_0, r4_1, r4_2, r4_3, r4_4, r4_5, r4_6, r4_7, r4_8, F4, q4, go_sem, Int.reduceToNat, Int.reduceLE, Int.reduceLT, Int.reduceEq, Int.reduceNe, Int.reduceNeg, Int.reduceAdd, Int.reduceSub, Int.reduceMul, Nat.reducePow, Nat.reduceDiv, Nat.reduceMod, Nat.reduceAdd, Nat.reduceSub, Nat.reduceMul, Nat.reduceLT, Nat.reduceLeDiff, Nat.reduceEqDiff, Nat.reduceBEq, reduceCtorEq, reduceIte, f8, S_8, h9, S_9, m1, m2, m3, m4, m5, m6, m7, m8, S_15, S_16, S_17, S_18, S_19, S_20, S_21]
  | false =>
    obtain ⟨m1, m2, m3, m4, m5, m6, m7, m8⟩ := main (modI k 6)
    simp only [r4_0, r4_1, r4_2, r4_3, r4_4, r4_5, r4_6, r4_7, r4_8, F4, q4, go_sem, Int.reduceToNat, Int.reduceLE, Int.reduceLT, Int.reduceEq, Int.reduceNe, Int.reduceNeg, Int.reduceAdd, Int.reduceSub, Int.reduceMul, Nat.reducePow, Nat.reduceDiv, Nat.reduceMod, Nat.reduceAdd, Nat.reduceSub, Nat.reduceMul, Nat.reduceLT, Nat.reduceLeDiff, Nat.reduceEqDiff, Nat.reduceBEq, reduceCtorEq, reduceIte, f8, S_8, h9, S_9, g4, S_10, m1, m2, m3, m4, m5, m6, m7, m8, S_15, S_16, S_17, S_18, S_19, S_20, S_21]
end Go.Proofs.Ytghggnfomlibjaa
