/-
  The play.
-/
import Derived.Test.YtghggnfomlibjaaG
set_option maxRecDepth 100000
set_option linter.unusedSimpArgs false
set_option linter.unusedVariables false
namespace Go.Proofs.Ytghggnfomlibjaa
open Go.Sy

def lsO (t u : Tok) (l : Ls) : SObj := .rc [.lst 3 (l.ls.map Lease.sv) t, .lst 3 (l.hs.map Hold.sv) u]
theorem nextA_le (B : List UInt8) (a : Nat) : a ≤ nextA B a ∧ nextA B a ≤ a + 1 ∧ (a ≤ B.length → nextA B a ≤ B.length) := by
  unfold nextA; split <;> omega
theorem nextA_lt (B : List UInt8) (a : Nat) (h : a < B.length) : nextA B a = a + 1 := by unfold nextA; rw [if_pos h]
theorem nextV_lt (B : List UInt8) (a n : Nat) (h : 0 < n) : nextV B a n < n := by
  unfold nextV; split
  · exact Nat.mod_lt _ h
  · exact h
theorem nx4_le (B : List UInt8) (a : Nat) : a ≤ nx4 B a ∧ (a ≤ B.length → nx4 B a ≤ B.length) := by
  unfold nx4
  have h1 := nextA_le B a
  have h2 := nextA_le B (nextA B a)
  have h3 := nextA_le B (nextA B (nextA B a))
  have h4 := nextA_le B (nextA B (nextA B (nextA B a)))
  constructor
  · omega
  · intro h; exact h4.2.2 (h3.2.2 (h2.2.2 (h1.2.2 h)))
theorem grd_ok (B : List UInt8) (a : Nat) : okG (grd B a) := ⟨by have := grd_len B a; omega, fun b hb => by rw [grd_32 B a b hb]; omega⟩
theorem okG_app {a b : List (List UInt8)} (ha : okG a) (hb : okG b) (h : a.length + b.length ≤ 1000000000) : okG (a ++ b) :=
  ⟨by rw [List.length_append]; exact h, fun x hx => (List.mem_append.1 hx).elim (ha.2 x) (hb.2 x)⟩
def st9 (t : Tok) (l : Ls) (now : Int) (B : List UInt8) (a : Nat) : CSt := ⟨[(2, .ptr 102 0), (4, .ptr 12100 0), (5, .ptr 105 0), (6, .int .i64 now)], [(102, .rc [.lst 3 [] .clip, .lst 3 [] .clip]), (105, lsO t t l), (12100, codesO B a)], []⟩
set_option maxHeartbeats 4000000 in
theorem s9 (B : List UInt8) (hB : B.length ≤ 80) (a : Nat) (ha : a < B.length) (l : Ls) (hl : WF l) (now : Int) (h0 : 0 ≤ now) (h1 : now ≤ 20 * a) (t : Tok) (ht : t = .no ∨ t = .clip) :
    ∃ (t' : Tok) (l' : Ls) (now' : Int) (a' : Nat), (t' = .no ∨ t' = .clip) ∧ WF l' ∧ 0 ≤ now' ∧ now' ≤ 20 * (a' : Int) ∧ a < a' ∧ a' ≤ B.length ∧ run T (.loop r9_20) (st9 t l now B a) = run T (.loop r9_20) (st9 t' l' now' B a') := by
  have ea := nextA_lt B a ha
  have hv1 := nextV_lt B a 20 (by omega)
  have hv2 := nextV_lt B (a + 1) 4 (by omega)
  have hl1 := hl.len
  have hl2 := hl.len2
  have g1 := f22 B a
  have g2 := f23 B a 20 (by omega) (by omega)
  have g3 := f23 B (a + 1) 4 (by omega) (by omega)
  have g4 := f23 B (nextA B (a + 1)) 6 (by omega) (by omega)
  rw [ea] at g2
  have c20 : ((20 : Nat) : Int) = 20 := rfl
  have c4 : ((4 : Nat) : Int) = 4 := rfl
  have c6 : ((6 : Nat) : Int) = 6 := rfl
  have c8 : ((8 : Nat) : Int) = 8 := rfl
  rw [c20] at g2
  rw [c4] at g3
  rw [c6] at g4
  have e1 : IntKind.i64.wrap (now + (nextV B a 20 : Nat)) = now + (nextV B a 20 : Nat) := w64 (by omega) (by omega)
  have e2 : IntKind.i64.wrap (1 + ((nextV B (a + 1) 4 : Nat) : Int)) = 1 + (nextV B (a + 1) 4 : Nat) := w64 (by omega) (by omega)
  simp only [codesO] at g1 g2 g3 g4
  generalize hk : nextV B (nextA B (a + 1)) 6 = k at g4
  have hk6 : k < 6 := by rw [← hk]; exact nextV_lt _ _ _ (by omega)
  have hA1 := nextA_le B (a + 1)
  have hA2 := nextA_le B (nextA B (a + 1))
  generalize hA : nextA B (nextA B (a + 1)) = A at g4 hA2
  generalize hm : (1 : Int) + (nextV B (a + 1) 4 : Nat) = m at e2
  generalize hw : now + (nextV B a 20 : Nat) = w at e1
  have hAB : A ≤ B.length := hA2.2.2 (hA1.2.2 (by omega))
  have hw0 : 0 ≤ w := by omega
  have hx := nx4_le B A
  have hx2 := nx4_le B (nx4 B A)
  have hnA := nextA_le B A
  have hg := grd_ok B A
  have hg2 := grd_ok B (nx4 B A)
  have hgl := grd_len B A
  have hgl2 := grd_len B (nx4 B A)
  have g5 := f11 B (by omega) A
  have g5' := f11 B (by omega) (nx4 B A)
  have g6 := f23 B A 8 (by omega) (by omega)
  rw [c8] at g6
  have g7 := f14 l m w (grd B A) (by omega) (by omega)
  have hv8 := nextV_lt B A 8 (by omega)
  have e3 : IntKind.i64.wrap (41 + ((nextV B A 8 : Nat) : Int)) = 41 + (nextV B A 8 : Nat) := w64 (by omega) (by omega)
  have g8 := f19 l m (41 + (nextV B A 8 : Nat)) w (by omega) (by omega)
  have g9 := f17 l m (by omega)
  have g10 := f27 l w (grd B A ++ grd B (nx4 B A)) hl.ok (okG_app hg hg2 (by omega))
  have e4 : ((grd B A).length + (grd B (nx4 B A)).length) * 24 ≤ 140737488355328 := by omega
  simp only [codesO] at g5 g5' g6
  simp only [Ls.sv, lsSV, hsSV, errV, gsSV] at g7 g8 g9 g10
  have wf7 := grant_wf l hl m w (grd B A) hg
  have wf8 := hold_wf l hl m (41 + (nextV B A 8 : Nat)) w
  have wf9 := rel_wf l hl m
  have wf10 := filter_wf l hl (keepR w (grd B A ++ grd B (nx4 B A)))
  have k0 : ((0 : Nat) : Int) = 0 := rfl
  have k1 : ((1 : Nat) : Int) = 1 := rfl
  have k2 : ((2 : Nat) : Int) = 2 := rfl
  have k3 : ((3 : Nat) : Int) = 3 := rfl
  have k4 : ((4 : Nat) : Int) = 4 := rfl
  have k5 : ((5 : Nat) : Int) = 5 := rfl
  rw [run_loop]
  have hks : k = 0 ∨ k = 1 ∨ k = 2 ∨ k = 3 ∨ k = 4 ∨ k = 5 := by omega
  rcases hks with rfl | rfl | rfl | rfl | rfl | rfl
  · generalize hr : grantR l m w (grd B A) = r at g7 wf7
    obtain ⟨x, e⟩ := r
    by_cases he : e = 0
    · refine ⟨.no, x, w, nx4 B A, .inl rfl, wf7 he, hw0, by omega, by omega, hx.2 hAB, ?_⟩
      rcases ht with rfl | rfl <;> simp only [r9_0, r9_1, r9_2, r9_3, r9_4, r9_5, r9_6, r9_7, r9_8, r9_9, r9_10, r9_11, r9_12, r9_13, r9_14, r9_15, r9_16, r9_17, r9_18, r9_19, r9_21, F9, q9_20, q9, go_sem, Int.reduceToNat, Int.reduceLE, Int.reduceLT, Int.reduceEq, Int.reduceNe, Int.reduceNeg, Int.reduceAdd, Int.reduceSub, Int.reduceMul, Nat.reducePow, Nat.reduceDiv, Nat.reduceMod, Nat.reduceAdd, Nat.reduceSub, Nat.reduceMul, Nat.reduceLT, Nat.reduceLeDiff, Nat.reduceEqDiff, Nat.reduceBEq, reduceCtorEq, reduceIte, st9, lsO, codesO, g1, g2, g3, g4, e1, e2, ha, hm, hw, S_22, S_23, k0, k1, k2, k3, k4, k5, g5, g7, he, S_11, S_14]
    · refine ⟨t, l, w, nx4 B A, ht, hl, hw0, by omega, by omega, hx.2 hAB, ?_⟩
      rcases ht with rfl | rfl <;> simp only [r9_0, r9_1, r9_2, r9_3, r9_4, r9_5, r9_6, r9_7, r9_8, r9_9, r9_10, r9_11, r9_12, r9_13, r9_14, r9_15, r9_16, r9_17, r9_18, r9_19, r9_21, F9, q9_20, q9, go_sem, Int.reduceToNat, Int.reduceLE, Int.reduceLT, Int.reduceEq, Int.reduceNe, Int.reduceNeg, Int.reduceAdd, Int.reduceSub, Int.reduceMul, Nat.reducePow, Nat.reduceDiv, Nat.reduceMod, Nat.reduceAdd, Nat.reduceSub, Nat.reduceMul, Nat.reduceLT, Nat.reduceLeDiff, Nat.reduceEqDiff, Nat.reduceBEq, reduceCtorEq, reduceIte, st9, lsO, codesO, g1, g2, g3, g4, e1, e2, ha, hm, hw, S_22, S_23, k0, k1, k2, k3, k4, k5, g5, g7, he, S_11, S_14]
  · generalize hr : grantR l m w (grd B A) = r at g7 wf7
    obtain ⟨x, e⟩ := r
    by_cases he : e = 0
    · refine ⟨.no, x, w, nx4 B A, .inl rfl, wf7 he, hw0, by omega, by omega, hx.2 hAB, ?_⟩
      rcases ht with rfl | rfl <;> simp only [r9_0, r9_1, r9_2, r9_3, r9_4, r9_5, r9_6, r9_7, r9_8, r9_9, r9_10, r9_11, r9_12, r9_13, r9_14, r9_15, r9_16, r9_17, r9_18, r9_19, r9_21, F9, q9_20, q9, go_sem, Int.reduceToNat, Int.reduceLE, Int.reduceLT, Int.reduceEq, Int.reduceNe, Int.reduceNeg, Int.reduceAdd, Int.reduceSub, Int.reduceMul, Nat.reducePow, Nat.reduceDiv, Nat.reduceMod, Nat.reduceAdd, Nat.reduceSub, Nat.reduceMul, Nat.reduceLT, Nat.reduceLeDiff, Nat.reduceEqDiff, Nat.reduceBEq, reduceCtorEq, reduceIte, st9, lsO, codesO, g1, g2, g3, g4, e1, e2, ha, hm, hw, S_22, S_23, k0, k1, k2, k3, k4, k5, g5, g7, he, S_11, S_14]
    · refine ⟨t, l, w, nx4 B A, ht, hl, hw0, by omega, by omega, hx.2 hAB, ?_⟩
      rcases ht with rfl | rfl <;> simp only [r9_0, r9_1, r9_2, r9_3, r9_4, r9_5, r9_6, r9_7, r9_8, r9_9, r9_10, r9_11, r9_12, r9_13, r9_14, r9_15, r9_16, r9_17, r9_18, r9_19, r9_21, F9, q9_20, q9, go_sem, Int.reduceToNat, Int.reduceLE, Int.reduceLT, Int.reduceEq, Int.reduceNe, Int.reduceNeg, Int.reduceAdd, Int.reduceSub, Int.reduceMul, Nat.reducePow, Nat.reduceDiv, Nat.reduceMod, Nat.reduceAdd, Nat.reduceSub, Nat.reduceMul, Nat.reduceLT, Nat.reduceLeDiff, Nat.reduceEqDiff, Nat.reduceBEq, reduceCtorEq, reduceIte, st9, lsO, codesO, g1, g2, g3, g4, e1, e2, ha, hm, hw, S_22, S_23, k0, k1, k2, k3, k4, k5, g5, g7, he, S_11, S_14]
  · generalize hr : grantR l m w (grd B A) = r at g7 wf7
    obtain ⟨x, e⟩ := r
    by_cases he : e = 0
    · refine ⟨.no, x, w, nx4 B A, .inl rfl, wf7 he, hw0, by omega, by omega, hx.2 hAB, ?_⟩
      rcases ht with rfl | rfl <;> simp only [r9_0, r9_1, r9_2, r9_3, r9_4, r9_5, r9_6, r9_7, r9_8, r9_9, r9_10, r9_11, r9_12, r9_13, r9_14, r9_15, r9_16, r9_17, r9_18, r9_19, r9_21, F9, q9_20, q9, go_sem, Int.reduceToNat, Int.reduceLE, Int.reduceLT, Int.reduceEq, Int.reduceNe, Int.reduceNeg, Int.reduceAdd, Int.reduceSub, Int.reduceMul, Nat.reducePow, Nat.reduceDiv, Nat.reduceMod, Nat.reduceAdd, Nat.reduceSub, Nat.reduceMul, Nat.reduceLT, Nat.reduceLeDiff, Nat.reduceEqDiff, Nat.reduceBEq, reduceCtorEq, reduceIte, st9, lsO, codesO, g1, g2, g3, g4, e1, e2, ha, hm, hw, S_22, S_23, k0, k1, k2, k3, k4, k5, g5, g7, he, S_11, S_14]
    · refine ⟨t, l, w, nx4 B A, ht, hl, hw0, by omega, by omega, hx.2 hAB, ?_⟩
      rcases ht with rfl | rfl <;> simp only [r9_0, r9_1, r9_2, r9_3, r9_4, r9_5, r9_6, r9_7, r9_8, r9_9, r9_10, r9_11, r9_12, r9_13, r9_14, r9_15, r9_16, r9_17, r9_18, r9_19, r9_21, F9, q9_20, q9, go_sem, Int.reduceToNat, Int.reduceLE, Int.reduceLT, Int.reduceEq, Int.reduceNe, Int.reduceNeg, Int.reduceAdd, Int.reduceSub, Int.reduceMul, Nat.reducePow, Nat.reduceDiv, Nat.reduceMod, Nat.reduceAdd, Nat.reduceSub, Nat.reduceMul, Nat.reduceLT, Nat.reduceLeDiff, Nat.reduceEqDiff, Nat.reduceBEq, reduceCtorEq, reduceIte, st9, lsO, codesO, g1, g2, g3, g4, e1, e2, ha, hm, hw, S_22, S_23, k0, k1, k2, k3, k4, k5, g5, g7, he, S_11, S_14]
  · refine ⟨.no, _, w, nextA B A, .inl rfl, wf8, hw0, by omega, by omega, hnA.2.2 hAB, ?_⟩
    rcases ht with rfl | rfl <;> simp only [r9_0, r9_1, r9_2, r9_3, r9_4, r9_5, r9_6, r9_7, r9_8, r9_9, r9_10, r9_11, r9_12, r9_13, r9_14, r9_15, r9_16, r9_17, r9_18, r9_19, r9_21, F9, q9_20, q9, go_sem, Int.reduceToNat, Int.reduceLE, Int.reduceLT, Int.reduceEq, Int.reduceNe, Int.reduceNeg, Int.reduceAdd, Int.reduceSub, Int.reduceMul, Nat.reducePow, Nat.reduceDiv, Nat.reduceMod, Nat.reduceAdd, Nat.reduceSub, Nat.reduceMul, Nat.reduceLT, Nat.reduceLeDiff, Nat.reduceEqDiff, Nat.reduceBEq, reduceCtorEq, reduceIte, st9, lsO, codesO, g1, g2, g3, g4, e1, e2, ha, hm, hw, S_22, S_23, k0, k1, k2, k3, k4, k5, g6, e3, g8, S_19]
  · generalize hr : relR l m = r at g9 wf9
    obtain ⟨x, e⟩ := r
    by_cases he : e = 0
    · refine ⟨.no, x, w, A, .inl rfl, wf9 he, hw0, by omega, by omega, hAB, ?_⟩
      rcases ht with rfl | rfl <;> simp only [r9_0, r9_1, r9_2, r9_3, r9_4, r9_5, r9_6, r9_7, r9_8, r9_9, r9_10, r9_11, r9_12, r9_13, r9_14, r9_15, r9_16, r9_17, r9_18, r9_19, r9_21, F9, q9_20, q9, go_sem, Int.reduceToNat, Int.reduceLE, Int.reduceLT, Int.reduceEq, Int.reduceNe, Int.reduceNeg, Int.reduceAdd, Int.reduceSub, Int.reduceMul, Nat.reducePow, Nat.reduceDiv, Nat.reduceMod, Nat.reduceAdd, Nat.reduceSub, Nat.reduceMul, Nat.reduceLT, Nat.reduceLeDiff, Nat.reduceEqDiff, Nat.reduceBEq, reduceCtorEq, reduceIte, st9, lsO, codesO, g1, g2, g3, g4, e1, e2, ha, hm, hw, S_22, S_23, k0, k1, k2, k3, k4, k5, g9, he, S_17]
    · refine ⟨t, l, w, A, ht, hl, hw0, by omega, by omega, hAB, ?_⟩
      rcases ht with rfl | rfl <;> simp only [r9_0, r9_1, r9_2, r9_3, r9_4, r9_5, r9_6, r9_7, r9_8, r9_9, r9_10, r9_11, r9_12, r9_13, r9_14, r9_15, r9_16, r9_17, r9_18, r9_19, r9_21, F9, q9_20, q9, go_sem, Int.reduceToNat, Int.reduceLE, Int.reduceLT, Int.reduceEq, Int.reduceNe, Int.reduceNeg, Int.reduceAdd, Int.reduceSub, Int.reduceMul, Nat.reducePow, Nat.reduceDiv, Nat.reduceMod, Nat.reduceAdd, Nat.reduceSub, Nat.reduceMul, Nat.reduceLT, Nat.reduceLeDiff, Nat.reduceEqDiff, Nat.reduceBEq, reduceCtorEq, reduceIte, st9, lsO, codesO, g1, g2, g3, g4, e1, e2, ha, hm, hw, S_22, S_23, k0, k1, k2, k3, k4, k5, g9, he, S_17]
  · refine ⟨.no, _, w, nx4 B (nx4 B A), .inl rfl, wf10, hw0, by omega, by omega, hx2.2 (hx.2 hAB), ?_⟩
    simp only [List.map_append] at g10
    rcases ht with rfl | rfl <;> simp only [r9_0, r9_1, r9_2, r9_3, r9_4, r9_5, r9_6, r9_7, r9_8, r9_9, r9_10, r9_11, r9_12, r9_13, r9_14, r9_15, r9_16, r9_17, r9_18, r9_19, r9_21, F9, q9_20, q9, go_sem, Int.reduceToNat, Int.reduceLE, Int.reduceLT, Int.reduceEq, Int.reduceNe, Int.reduceNeg, Int.reduceAdd, Int.reduceSub, Int.reduceMul, Nat.reducePow, Nat.reduceDiv, Nat.reduceMod, Nat.reduceAdd, Nat.reduceSub, Nat.reduceMul, Nat.reduceLT, Nat.reduceLeDiff, Nat.reduceEqDiff, Nat.reduceBEq, reduceCtorEq, reduceIte, st9, lsO, codesO, g1, g2, g3, g4, e1, e2, ha, hm, hw, S_22, S_23, k0, k1, k2, k3, k4, k5, g5, g5', e4, g10, S_11, S_27]
end Go.Proofs.Ytghggnfomlibjaa
