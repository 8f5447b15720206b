/-
  The law of sweeps.
-/
import Derived.Test.YtghggnfomlibjaaL
set_option maxRecDepth 100000
set_option linter.unusedSimpArgs false
set_option linter.unusedVariables false
namespace Go.Proofs.Ytghggnfomlibjaa
open Go.Sy

def st6 (l : Ls) (g : List (List UInt8)) (k n : Int) (B : List UInt8) (a : Nat) (tm : List (Nat × SV)) : CSt :=
  ⟨[(2, .int .i64 k), (3, .int .i64 n), (11, .ptr 111 0), (13, .lst 1 (g.map bytS) (.id 31060))] ++ tm, [(111, .rc [.lst 3 (l.ls.map Lease.sv) .no, .lst 3 (l.hs.map Hold.sv) .no]), (30100, .rc [.byt B .no, .int .i64 a])], [31060]⟩
theorem l6 (l : Ls) (hl : WF l) (g : List (List UInt8)) (k n : Int) (B : List UInt8) (a : Nat) : ∀ (f i : Nat), 6 - i = f → i ≤ 6 →
    run T (.loop r6_12) (st6 l g k n B a [(14, .int .i64 i)]) = some (.x 0, st6 l g k n B a []) := by
  have hl1 := hl.len
  intro f
  induction f with
  | zero =>
    intro i h0 h1
    have e : i = 6 := by omega
    subst e
    have c6 : ((6 : Nat) : Int) = 6 := rfl
    rw [run_loop]
    simp only [r6_0, r6_1, r6_2, r6_3, r6_4, r6_5, r6_6, r6_7, r6_8, r6_9, r6_10, r6_11, r6_13, F6, q6_12, q6, go_sem, Int.reduceToNat, Int.reduceLE, Int.reduceLT, Int.reduceEq, Int.reduceNe, Int.reduceNeg, Int.reduceAdd, Int.reduceSub, Int.reduceMul, Nat.reducePow, Nat.reduceDiv, Nat.reduceMod, Nat.reduceAdd, Nat.reduceSub, Nat.reduceMul, Nat.reduceLT, Nat.reduceLeDiff, Nat.reduceEqDiff, Nat.reduceBEq, reduceCtorEq, reduceIte, st6, c6]
  | succ f ih =>
    intro i h0 h1
    have e1 : (i : Int) ≤ 5 := by omega
    have e3 := wsucc i (by omega)
    have h := ih (i + 1) (by omega) (by omega)
    have g1 := f24 l i n hl.s1 (by omega)
    have g2 := f25 l i n (by omega)
    rw [adm_eq _ hl.s1] at g1
    simp only [lsv] at g1 g2
    simp only [st6, List.cons_append, List.nil_append] at h ⊢
    rw [run_loop]
    simp only [r6_0, r6_1, r6_2, r6_3, r6_4, r6_5, r6_6, r6_7, r6_8, r6_9, r6_10, r6_11, r6_13, F6, q6_12, q6, go_sem, Int.reduceToNat, Int.reduceLE, Int.reduceLT, Int.reduceEq, Int.reduceNe, Int.reduceNeg, Int.reduceAdd, Int.reduceSub, Int.reduceMul, Nat.reducePow, Nat.reduceDiv, Nat.reduceMod, Nat.reduceAdd, Nat.reduceSub, Nat.reduceMul, Nat.reduceLT, Nat.reduceLeDiff, Nat.reduceEqDiff, Nat.reduceBEq, reduceCtorEq, reduceIte, e1, e3, g1, g2, S_24, S_25, h]
theorem sweep_eq (l : Ls) (now : Int) (fs : List (List UInt8)) : l.ls.filter (keepP now fs) = l.ls.filter (keepR now fs) := by
  congr 1
  funext x
  exact keep_eq now fs x
theorem f6 (c m : List UInt8) (k n : Int) (hn : IntKind.i64.has n) (any : Bool) : call T 6 [.byt c .no, .byt m .no, .int .i64 k, .int .i64 n, .bool any] [] 0 = some ⟨.bool true, [], []⟩ := by
  obtain ⟨l, now, hl, h0, h1, h9⟩ := f9 c
  have hl1 := hl.len
  have hl2 := hl.len2
  have hn' : -9223372036854775808 ≤ n ∧ n ≤ 9223372036854775807 := hn
  have g1 := f12 m 10
  have c10 : ((10 : Nat) : Int) = 10 := rfl
  rw [c10] at g1
  have hB : (m.take 10).length ≤ 10 := by simp; omega
  have g2 := f11 (m.take 10) (by omega) 0
  have hg := grd_ok (m.take 10) 0
  have r2 := modI_range n 90 (by omega)
  have g5 := f10 n 90 hn'.1 hn'.2 (by omega)
  have e1 : IntKind.i64.wrap (now + modI n 90) = now + modI n 90 := w64 (by omega) (by omega)
  have main : ∀ n' : Int, (call T 24 [l.sv, .int .i64 k, .int .i64 n'] [] 0 = some ⟨.bool (admR l.ls k n'), [], []⟩) ∧
      (call T 25 [l.sv, .int .i64 k, .int .i64 n'] [] 0 = some ⟨.bool (admR l.ls k n'), [], []⟩) ∧
      (call T 26 [l.sv, .int .i64 n', .lst 1 ((grd (m.take 10) 0).map bytS) .no] [] 0 = some ⟨(Ls.mk (l.ls.filter (keepR n' (grd (m.take 10) 0))) l.hs).sv, [], []⟩) ∧
      (call T 27 [l.sv, .int .i64 n', .lst 1 ((grd (m.take 10) 0).map bytS) .no] [] 0 = some ⟨(Ls.mk (l.ls.filter (keepR n' (grd (m.take 10) 0))) l.hs).sv, [], []⟩) ∧
      (call T 15 [(Ls.mk (l.ls.filter (keepR n' (grd (m.take 10) 0))) l.hs).sv, (Ls.mk (l.ls.filter (keepR n' (grd (m.take 10) 0))) l.hs).sv] [] 0 = some ⟨.bool true, [], []⟩) ∧
      run T (.loop r6_12) (st6 l (grd (m.take 10) 0) k n' (m.take 10) (nx4 (m.take 10) 0) [(14, .int .i64 (0 : Nat))]) = some (.x 0, st6 l (grd (m.take 10) 0) k n' (m.take 10) (nx4 (m.take 10) 0) []) := by
    intro n'
    refine ⟨?_, f25 l k n' (by omega), ?_, f27 l n' _ hl.ok hg, ?_, l6 l hl _ k n' _ _ 6 0 (by omega) (by omega)⟩
    · rw [← adm_eq _ hl.s1]; exact f24 l k n' hl.s1 (by omega)
    · rw [← sweep_eq]; exact f26 l n' _ hl.ok hg.1
    · have hw := filter_wf l hl (keepR n' (grd (m.take 10) 0))
      have hw2 := hw.len2
      have := f15 _ (Ls.mk (l.ls.filter (keepR n' (grd (m.take 10) 0))) l.hs) hw.ok (by omega)
      simpa using this
  rw [call_code T_6]
  simp only [codesO, Int.natCast_zero, st6, lsv, List.cons_append, List.nil_append, List.append_nil] at g1 g2 main h9
  cases any with
  | true =>
    obtain ⟨m1, m2, m3, m4, m5, m6⟩ := main n
    simp only [r6_0, r6_1, r6_2, r6_3, r6_4, r6_5, r6_6, r6_7, r6_8, r6_9, r6_10, r6_11, r6_13, F6, q6_12, q6, go_sem, Int.reduceToNat, Int.reduceLE, Int.reduceLT, Int.reduceEq, Int.reduceNe, Int.reduceNeg, Int.reduceAdd, Int.reduceSub, Int.reduceMul, Nat.reducePow, Nat.reduceDiv, Nat.reduceMod, Nat.reduceAdd, Nat.reduceSub, Nat.reduceMul, Nat.reduceLT, Nat.reduceLeDiff, Nat.reduceEqDiff, Nat.reduceBEq, reduceCtorEq, reduceIte, f8, S_8, h9, S_9, g1, S_12, g2, S_11, m1, m2, m3, m4, m5, m6, S_24, S_25, S_26, S_27, S_15]
  | false =>
    obtain ⟨m1, m2, m3, m4, m5, m6⟩ := main (now + modI n 90)
    simp only [r6_0, r6_1, r6_2, r6_3, r6_4, r6_5, r6_6, r6_7, r6_8, r6_9, r6_10, r6_11, r6_13, F6, q6_12, q6, go_sem, Int.reduceToNat, Int.reduceLE, Int.reduceLT, Int.reduceEq, Int.reduceNe, Int.reduceNeg, Int.reduceAdd, Int.reduceSub, Int.reduceMul, Nat.reducePow, Nat.reduceDiv, Nat.reduceMod, Nat.reduceAdd, Nat.reduceSub, Nat.reduceMul, Nat.reduceLT, Nat.reduceLeDiff, Nat.reduceEqDiff, Nat.reduceBEq, reduceCtorEq, reduceIte, f8, S_8, h9, S_9, g1, S_12, g2, S_11, g5, S_10, e1, m1, m2, m3, m4, m5, m6, S_24, S_25, S_26, S_27, S_15]
end Go.Proofs.Ytghggnfomlibjaa
