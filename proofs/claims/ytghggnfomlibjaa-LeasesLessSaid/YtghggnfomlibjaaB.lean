/-
  The reference's searches; the reader of codes.
-/
import Derived.Test.YtghggnfomlibjaaA
set_option maxRecDepth 100000
set_option linter.unusedSimpArgs false
set_option linter.unusedVariables false
namespace Go.Proofs.Ytghggnfomlibjaa
open Go.Sy

theorem wsucc (i : Nat) (h : i ≤ 4000000000) : IntKind.i64.wrap ((i : Int) + 1) = ((i + 1 : Nat) : Int) := by rw [w64 (by omega) (by omega)]; omega
theorem drop_cons {α : Type} [Inhabited α] (l : List α) (i : Nat) (h : i < l.length) : l.drop i = l.getD i default :: l.drop (i + 1) := by
  rw [List.drop_eq_getElem_cons h, List.getD_eq_getElem?_getD, List.getElem?_eq_getElem h]; rfl

theorem l21 (L : List Lease) (l : List Hold) (m : Int) (hl : l.length ≤ 1000000000) : ∀ (n i : Nat), l.length - i = n → i ≤ l.length →
    run T (.loop r21_6) ⟨[(1, .int .i64 m), (2, .ptr 102 0), (5, .int .i64 i)], [(102, .rc [.lst 3 (L.map Lease.sv) .no, .lst 3 (l.map Hold.sv) .no])], []⟩ =
      if ((l.drop i).map Hold.m).contains m = true then some (.r, ⟨[(4, .bool true)], [(102, .rc [.lst 3 (L.map Lease.sv) .no, .lst 3 (l.map Hold.sv) .no])], []⟩)
      else some (.x 0, ⟨[], [(102, .rc [.lst 3 (L.map Lease.sv) .no, .lst 3 (l.map Hold.sv) .no])], []⟩) := by
  intro n
  induction n with
  | zero =>
    intro i h0 h1
    have hi : i = l.length := by omega
    subst hi
    rw [run_loop]
    simp only [r21_0, r21_1, r21_2, r21_3, r21_4, r21_5, r21_7, F21, q21_6, q21, go_sem, Int.reduceToNat, Int.reduceLE, Int.reduceLT, Int.reduceEq, Int.reduceNe, Int.reduceNeg, Int.reduceAdd, Int.reduceSub, Int.reduceMul, Nat.reducePow, Nat.reduceDiv, Nat.reduceMod, Nat.reduceAdd, Nat.reduceSub, Nat.reduceMul, Nat.reduceLT, Nat.reduceLeDiff, Nat.reduceEqDiff, Nat.reduceBEq, reduceCtorEq, reduceIte, List.drop_length]
  | succ n ih =>
    intro i h0 h1
    have hi : i < l.length := by omega
    rw [run_loop, drop_cons l i hi]
    have e2 := getD_map Hold.sv l i hi
    have e3 := wsucc i (by omega)
    simp only [r21_0, r21_1, r21_2, r21_3, r21_4, r21_5, r21_7, F21, q21_6, q21, go_sem, Int.reduceToNat, Int.reduceLE, Int.reduceLT, Int.reduceEq, Int.reduceNe, Int.reduceNeg, Int.reduceAdd, Int.reduceSub, Int.reduceMul, Nat.reducePow, Nat.reduceDiv, Nat.reduceMod, Nat.reduceAdd, Nat.reduceSub, Nat.reduceMul, Nat.reduceLT, Nat.reduceLeDiff, Nat.reduceEqDiff, Nat.reduceBEq, reduceCtorEq, reduceIte, hi, e2, Hold.sv, e3, ih (i + 1) (by omega) (by omega)]
    by_cases hc : (l.getD i default).m = m
    · simp only [hc, go_sem, Int.reduceToNat, Int.reduceLE, Int.reduceLT, Int.reduceEq, Int.reduceNe, Int.reduceNeg, Int.reduceAdd, Int.reduceSub, Int.reduceMul, Nat.reducePow, Nat.reduceDiv, Nat.reduceMod, Nat.reduceAdd, Nat.reduceSub, Nat.reduceMul, Nat.reduceLT, Nat.reduceLeDiff, Nat.reduceEqDiff, Nat.reduceBEq, reduceCtorEq, reduceIte, r21_0, r21_1, r21_2, r21_3, r21_4, r21_5, r21_7, F21, q21_6, q21]
    · have hc' : (m == (l.getD i default).m) = false := by simpa using Ne.symm hc
      simp only [hc, hc', go_sem, Int.reduceToNat, Int.reduceLE, Int.reduceLT, Int.reduceEq, Int.reduceNe, Int.reduceNeg, Int.reduceAdd, Int.reduceSub, Int.reduceMul, Nat.reducePow, Nat.reduceDiv, Nat.reduceMod, Nat.reduceAdd, Nat.reduceSub, Nat.reduceMul, Nat.reduceLT, Nat.reduceLeDiff, Nat.reduceEqDiff, Nat.reduceBEq, reduceCtorEq, reduceIte, r21_0, r21_1, r21_2, r21_3, r21_4, r21_5, r21_7, F21, q21_6, q21]
theorem f21 (l : Ls) (m : Int) (hl : l.hs.length ≤ 1000000000) : call T 21 [l.sv, .int .i64 m] [] 0 = some ⟨.bool ((l.hs.map Hold.m).contains m), [], []⟩ := by
  have h := l21 l.ls l.hs m hl _ 0 rfl (by omega)
  rw [call_code T_21]
  simp only [r21_0, r21_1, r21_2, r21_3, r21_4, r21_5, r21_7, F21, q21_6, q21, go_sem, Int.reduceToNat, Int.reduceLE, Int.reduceLT, Int.reduceEq, Int.reduceNe, Int.reduceNeg, Int.reduceAdd, Int.reduceSub, Int.reduceMul, Nat.reducePow, Nat.reduceDiv, Nat.reduceMod, Nat.reduceAdd, Nat.reduceSub, Nat.reduceMul, Nat.reduceLT, Nat.reduceLeDiff, Nat.reduceEqDiff, Nat.reduceBEq, reduceCtorEq, reduceIte, Ls.sv, lsSV, hsSV]
  simp only [Int.natCast_zero, List.drop_zero] at h
  rw [h]
  by_cases hc : (l.hs.map Hold.m).contains m = true
  · simp only [hc, r21_0, r21_1, r21_2, r21_3, r21_4, r21_5, r21_7, F21, q21_6, q21, go_sem, Int.reduceToNat, Int.reduceLE, Int.reduceLT, Int.reduceEq, Int.reduceNe, Int.reduceNeg, Int.reduceAdd, Int.reduceSub, Int.reduceMul, Nat.reducePow, Nat.reduceDiv, Nat.reduceMod, Nat.reduceAdd, Nat.reduceSub, Nat.reduceMul, Nat.reduceLT, Nat.reduceLeDiff, Nat.reduceEqDiff, Nat.reduceBEq, reduceCtorEq, reduceIte]
  · have hc' : (l.hs.map Hold.m).contains m = false := by simpa using hc
    simp only [hc', r21_0, r21_1, r21_2, r21_3, r21_4, r21_5, r21_7, F21, q21_6, q21, go_sem, Int.reduceToNat, Int.reduceLE, Int.reduceLT, Int.reduceEq, Int.reduceNe, Int.reduceNeg, Int.reduceAdd, Int.reduceSub, Int.reduceMul, Nat.reducePow, Nat.reduceDiv, Nat.reduceMod, Nat.reduceAdd, Nat.reduceSub, Nat.reduceMul, Nat.reduceLT, Nat.reduceLeDiff, Nat.reduceEqDiff, Nat.reduceBEq, reduceCtorEq, reduceIte]

def findL (l : List Lease) (m : Int) : Option Lease := l.find? fun x => decide (x.m = m)
theorem l28 (l : List Lease) (H : List Hold) (m : Int) (hl : l.length ≤ 1000000000) : ∀ (n i : Nat), l.length - i = n → i ≤ l.length →
    run T (.loop r28_6) ⟨[(1, .int .i64 m), (2, .ptr 102 0), (4, .ptr 104 0), (6, .int .i64 i)], [(102, .rc [.lst 3 (l.map Lease.sv) .no, .lst 3 (H.map Hold.sv) .no]), (104, .rc [.int .i64 0, .int .i64 0, .lst 1 [] .clip])], []⟩ =
      match findL (l.drop i) m with
      | some x => some (.r, ⟨[(4, .ptr 104 0), (5, .bool true)], [(102, .rc [.lst 3 (l.map Lease.sv) .no, .lst 3 (H.map Hold.sv) .no]), (104, .rc [.int .i64 x.m, .int .i64 x.u, .lst 1 (x.g.map bytS) .no])], []⟩)
      | none => some (.x 0, ⟨[(4, .ptr 104 0)], [(102, .rc [.lst 3 (l.map Lease.sv) .no, .lst 3 (H.map Hold.sv) .no]), (104, .rc [.int .i64 0, .int .i64 0, .lst 1 [] .clip])], []⟩) := by
  intro n
  induction n with
  | zero =>
    intro i h0 h1
    have hi : i = l.length := by omega
    subst hi
    rw [run_loop]
    simp only [r28_0, r28_1, r28_2, r28_3, r28_4, r28_5, r28_7, F28, q28_6, q28, go_sem, Int.reduceToNat, Int.reduceLE, Int.reduceLT, Int.reduceEq, Int.reduceNe, Int.reduceNeg, Int.reduceAdd, Int.reduceSub, Int.reduceMul, Nat.reducePow, Nat.reduceDiv, Nat.reduceMod, Nat.reduceAdd, Nat.reduceSub, Nat.reduceMul, Nat.reduceLT, Nat.reduceLeDiff, Nat.reduceEqDiff, Nat.reduceBEq, reduceCtorEq, reduceIte, List.drop_length, findL, List.find?_nil]
  | succ n ih =>
    intro i h0 h1
    have hi : i < l.length := by omega
    rw [run_loop, drop_cons l i hi]
    have e2 := getD_map Lease.sv l i hi
    have e3 := wsucc i (by omega)
    simp only [r28_0, r28_1, r28_2, r28_3, r28_4, r28_5, r28_7, F28, q28_6, q28, go_sem, Int.reduceToNat, Int.reduceLE, Int.reduceLT, Int.reduceEq, Int.reduceNe, Int.reduceNeg, Int.reduceAdd, Int.reduceSub, Int.reduceMul, Nat.reducePow, Nat.reduceDiv, Nat.reduceMod, Nat.reduceAdd, Nat.reduceSub, Nat.reduceMul, Nat.reduceLT, Nat.reduceLeDiff, Nat.reduceEqDiff, Nat.reduceBEq, reduceCtorEq, reduceIte, hi, e2, Lease.sv, gsSV, e3, ih (i + 1) (by omega) (by omega), findL, List.find?_cons]
    by_cases hc : (l.getD i default).m = m
    · simp only [hc, go_sem, Int.reduceToNat, Int.reduceLE, Int.reduceLT, Int.reduceEq, Int.reduceNe, Int.reduceNeg, Int.reduceAdd, Int.reduceSub, Int.reduceMul, Nat.reducePow, Nat.reduceDiv, Nat.reduceMod, Nat.reduceAdd, Nat.reduceSub, Nat.reduceMul, Nat.reduceLT, Nat.reduceLeDiff, Nat.reduceEqDiff, Nat.reduceBEq, reduceCtorEq, reduceIte, r28_0, r28_1, r28_2, r28_3, r28_4, r28_5, r28_7, F28, q28_6, q28]
    · simp only [hc, go_sem, Int.reduceToNat, Int.reduceLE, Int.reduceLT, Int.reduceEq, Int.reduceNe, Int.reduceNeg, Int.reduceAdd, Int.reduceSub, Int.reduceMul, Nat.reducePow, Nat.reduceDiv, Nat.reduceMod, Nat.reduceAdd, Nat.reduceSub, Nat.reduceMul, Nat.reduceLT, Nat.reduceLeDiff, Nat.reduceEqDiff, Nat.reduceBEq, reduceCtorEq, reduceIte, r28_0, r28_1, r28_2, r28_3, r28_4, r28_5, r28_7, F28, q28_6, q28]
theorem f28 (l : Ls) (m : Int) (hl : l.ls.length ≤ 1000000000) : call T 28 [l.sv, .int .i64 m] [] 0 = some ⟨.tup [.agg ((findL l.ls m).getD default).sv, .bool (findL l.ls m).isSome], [], []⟩ := by
  have h := l28 l.ls l.hs m hl _ 0 rfl (by omega)
  rw [call_code T_28]
  simp only [r28_0, r28_1, r28_2, r28_3, r28_4, r28_5, r28_7, F28, q28_6, q28, go_sem, Int.reduceToNat, Int.reduceLE, Int.reduceLT, Int.reduceEq, Int.reduceNe, Int.reduceNeg, Int.reduceAdd, Int.reduceSub, Int.reduceMul, Nat.reducePow, Nat.reduceDiv, Nat.reduceMod, Nat.reduceAdd, Nat.reduceSub, Nat.reduceMul, Nat.reduceLT, Nat.reduceLeDiff, Nat.reduceEqDiff, Nat.reduceBEq, reduceCtorEq, reduceIte, Ls.sv, lsSV, hsSV]
  simp only [Int.natCast_zero, List.drop_zero] at h
  rw [h]
  cases findL l.ls m with
  | none => simp only [r28_0, r28_1, r28_2, r28_3, r28_4, r28_5, r28_7, F28, q28_6, q28, go_sem, Int.reduceToNat, Int.reduceLE, Int.reduceLT, Int.reduceEq, Int.reduceNe, Int.reduceNeg, Int.reduceAdd, Int.reduceSub, Int.reduceMul, Nat.reducePow, Nat.reduceDiv, Nat.reduceMod, Nat.reduceAdd, Nat.reduceSub, Nat.reduceMul, Nat.reduceLT, Nat.reduceLeDiff, Nat.reduceEqDiff, Nat.reduceBEq, reduceCtorEq, reduceIte, Lease.sv, gsSV]; rfl
  | some x => simp only [r28_0, r28_1, r28_2, r28_3, r28_4, r28_5, r28_7, F28, q28_6, q28, go_sem, Int.reduceToNat, Int.reduceLE, Int.reduceLT, Int.reduceEq, Int.reduceNe, Int.reduceNeg, Int.reduceAdd, Int.reduceSub, Int.reduceMul, Nat.reducePow, Nat.reduceDiv, Nat.reduceMod, Nat.reduceAdd, Nat.reduceSub, Nat.reduceMul, Nat.reduceLT, Nat.reduceLeDiff, Nat.reduceEqDiff, Nat.reduceBEq, reduceCtorEq, reduceIte, Lease.sv, gsSV]

theorem l39 (l : List Lease) (m : Int) (hl : l.length ≤ 1000000000) : ∀ (n i : Nat) (acc : List Lease), l.length - i = n → i ≤ l.length → acc.length ≤ i →
    run T (.loop r39_7) ⟨[(0, .lst 3 (l.map Lease.sv) .no), (1, .int .i64 m), (5, .lst 3 (acc.map Lease.sv) (.id 105)), (6, .int .i64 i)], [], [105]⟩ =
      some (.x 0, ⟨[(5, .lst 3 ((acc ++ (l.drop i).filter fun x => decide (x.m ≠ m)).map Lease.sv) (.id 105))], [], [105]⟩) := by
  intro n
  induction n with
  | zero =>
    intro i acc h0 h1 ha
    have hi : i = l.length := by omega
    subst hi
    rw [run_loop]
    simp only [r39_0, r39_1, r39_2, r39_3, r39_4, r39_5, r39_6, r39_8, F39, q39_7, q39, go_sem, Int.reduceToNat, Int.reduceLE, Int.reduceLT, Int.reduceEq, Int.reduceNe, Int.reduceNeg, Int.reduceAdd, Int.reduceSub, Int.reduceMul, Nat.reducePow, Nat.reduceDiv, Nat.reduceMod, Nat.reduceAdd, Nat.reduceSub, Nat.reduceMul, Nat.reduceLT, Nat.reduceLeDiff, Nat.reduceEqDiff, Nat.reduceBEq, reduceCtorEq, reduceIte, List.drop_length, List.filter_nil]
  | succ n ih =>
    intro i acc h0 h1 ha
    have hi : i < l.length := by omega
    rw [run_loop, drop_cons l i hi]
    have e2 := getD_map Lease.sv l i hi
    have e3 := wsucc i (by omega)
    have e4 : (acc.length + 1) * 40 ≤ 140737488355328 := by omega
    simp only [r39_0, r39_1, r39_2, r39_3, r39_4, r39_5, r39_6, r39_8, F39, q39_7, q39, go_sem, Int.reduceToNat, Int.reduceLE, Int.reduceLT, Int.reduceEq, Int.reduceNe, Int.reduceNeg, Int.reduceAdd, Int.reduceSub, Int.reduceMul, Nat.reducePow, Nat.reduceDiv, Nat.reduceMod, Nat.reduceAdd, Nat.reduceSub, Nat.reduceMul, Nat.reduceLT, Nat.reduceLeDiff, Nat.reduceEqDiff, Nat.reduceBEq, reduceCtorEq, reduceIte, hi, e2, Lease.sv, gsSV, e3, e4, List.filter_cons]
    by_cases hc : (l.getD i default).m = m
    · have h := ih (i + 1) acc (by omega) (by omega) (by omega)
      simp only [List.map_append] at h
      simp only [hc, go_sem, Int.reduceToNat, Int.reduceLE, Int.reduceLT, Int.reduceEq, Int.reduceNe, Int.reduceNeg, Int.reduceAdd, Int.reduceSub, Int.reduceMul, Nat.reducePow, Nat.reduceDiv, Nat.reduceMod, Nat.reduceAdd, Nat.reduceSub, Nat.reduceMul, Nat.reduceLT, Nat.reduceLeDiff, Nat.reduceEqDiff, Nat.reduceBEq, reduceCtorEq, reduceIte, r39_0, r39_1, r39_2, r39_3, r39_4, r39_5, r39_6, r39_8, F39, q39_7, q39, h, ne_eq]
    · have h := ih (i + 1) (acc ++ [l.getD i default]) (by omega) (by omega) (by simp; omega)
      simp only [List.map_append, List.map_cons, List.map_nil, Lease.sv, gsSV, List.append_assoc, List.cons_append, List.nil_append] at h
      simp only [hc, go_sem, Int.reduceToNat, Int.reduceLE, Int.reduceLT, Int.reduceEq, Int.reduceNe, Int.reduceNeg, Int.reduceAdd, Int.reduceSub, Int.reduceMul, Nat.reducePow, Nat.reduceDiv, Nat.reduceMod, Nat.reduceAdd, Nat.reduceSub, Nat.reduceMul, Nat.reduceLT, Nat.reduceLeDiff, Nat.reduceEqDiff, Nat.reduceBEq, reduceCtorEq, reduceIte, r39_0, r39_1, r39_2, r39_3, r39_4, r39_5, r39_6, r39_8, F39, q39_7, q39, h, ne_eq, List.map_cons, Lease.sv, gsSV]
theorem f39 (l : List Lease) (m : Int) (hl : l.length ≤ 1000000000) : call T 39 [.lst 3 (l.map Lease.sv) .no, .int .i64 m] [] 0 = some ⟨.lst 3 ((l.filter fun x => decide (x.m ≠ m)).map Lease.sv) .no, [], []⟩ := by
  have h := l39 l m hl _ 0 [] rfl (by omega) (by simp)
  rw [call_code T_39]
  simp only [Int.natCast_zero, List.drop_zero, List.map_nil, List.nil_append] at h
  simp only [r39_0, r39_1, r39_2, r39_3, r39_4, r39_5, r39_6, r39_8, F39, q39_7, q39, go_sem, Int.reduceToNat, Int.reduceLE, Int.reduceLT, Int.reduceEq, Int.reduceNe, Int.reduceNeg, Int.reduceAdd, Int.reduceSub, Int.reduceMul, Nat.reducePow, Nat.reduceDiv, Nat.reduceMod, Nat.reduceAdd, Nat.reduceSub, Nat.reduceMul, Nat.reduceLT, Nat.reduceLeDiff, Nat.reduceEqDiff, Nat.reduceBEq, reduceCtorEq, reduceIte, h]

theorem drop_cons0 (l : List UInt8) (i : Nat) (h : i < l.length) : l.drop i = l.getD i 0 :: l.drop (i + 1) := drop_cons l i h
theorem l50 (a b : List UInt8) (hl : a.length ≤ 140737488355328) (hab : a.length = b.length) : ∀ (n i : Nat), a.length - i = n → i ≤ a.length →
    run T (.loop r50_8) ⟨[(0, .byt a .no), (1, .byt b .no), (5, .int .i64 i)], [], []⟩ = if a.drop i = b.drop i then some (.x 0, ⟨[], [], []⟩) else some (.r, ⟨[(4, .bool false)], [], []⟩) := by
  intro n
  induction n with
  | zero =>
    intro i h0 h1
    have hi : i = a.length := by omega
    subst hi
    rw [run_loop]
    have e : List.drop a.length b = [] := by rw [hab, List.drop_length]
    simp only [r50_0, r50_1, r50_2, r50_3, r50_4, r50_5, r50_6, r50_7, r50_9, F50, q50_8, q50, go_sem, Int.reduceToNat, Int.reduceLE, Int.reduceLT, Int.reduceEq, Int.reduceNe, Int.reduceNeg, Int.reduceAdd, Int.reduceSub, Int.reduceMul, Nat.reducePow, Nat.reduceDiv, Nat.reduceMod, Nat.reduceAdd, Nat.reduceSub, Nat.reduceMul, Nat.reduceLT, Nat.reduceLeDiff, Nat.reduceEqDiff, Nat.reduceBEq, reduceCtorEq, reduceIte, List.drop_length, e]
  | succ n ih =>
    intro i h0 h1
    have hi : i < a.length := by omega
    have hi2 : i < b.length := by omega
    rw [run_loop, drop_cons0 a i hi, drop_cons0 b i hi2]
    have e3 : IntKind.i64.wrap ((i : Int) + 1) = ((i + 1 : Nat) : Int) := by rw [w64 (by omega) (by omega)]; omega
    simp only [r50_0, r50_1, r50_2, r50_3, r50_4, r50_5, r50_6, r50_7, r50_9, F50, q50_8, q50, go_sem, Int.reduceToNat, Int.reduceLE, Int.reduceLT, Int.reduceEq, Int.reduceNe, Int.reduceNeg, Int.reduceAdd, Int.reduceSub, Int.reduceMul, Nat.reducePow, Nat.reduceDiv, Nat.reduceMod, Nat.reduceAdd, Nat.reduceSub, Nat.reduceMul, Nat.reduceLT, Nat.reduceLeDiff, Nat.reduceEqDiff, Nat.reduceBEq, reduceCtorEq, reduceIte, hi, hi2, e3, ih (i + 1) (by omega) (by omega), List.cons.injEq]
    by_cases hc : a.getD i 0 = b.getD i 0 <;> simp only [hc, go_sem, Int.reduceToNat, Int.reduceLE, Int.reduceLT, Int.reduceEq, Int.reduceNe, Int.reduceNeg, Int.reduceAdd, Int.reduceSub, Int.reduceMul, Nat.reducePow, Nat.reduceDiv, Nat.reduceMod, Nat.reduceAdd, Nat.reduceSub, Nat.reduceMul, Nat.reduceLT, Nat.reduceLeDiff, Nat.reduceEqDiff, Nat.reduceBEq, reduceCtorEq, reduceIte]
theorem f50 (a b : List UInt8) (hl : a.length ≤ 140737488355328) : call T 50 [.byt a .no, .byt b .no] [] 0 = some ⟨.bool (decide (a = b)), [], []⟩ := by
  rw [call_code T_50]
  by_cases hab : a.length = b.length
  · have h := l50 a b hl hab _ 0 rfl (by omega)
    simp only [Int.natCast_zero, List.drop_zero] at h
    simp only [r50_0, r50_1, r50_2, r50_3, r50_4, r50_5, r50_6, r50_7, r50_9, F50, q50_8, q50, go_sem, Int.reduceToNat, Int.reduceLE, Int.reduceLT, Int.reduceEq, Int.reduceNe, Int.reduceNeg, Int.reduceAdd, Int.reduceSub, Int.reduceMul, Nat.reducePow, Nat.reduceDiv, Nat.reduceMod, Nat.reduceAdd, Nat.reduceSub, Nat.reduceMul, Nat.reduceLT, Nat.reduceLeDiff, Nat.reduceEqDiff, Nat.reduceBEq, reduceCtorEq, reduceIte, hab, h]
    by_cases hc : a = b <;> simp only [hc, r50_0, r50_1, r50_2, r50_3, r50_4, r50_5, r50_6, r50_7, r50_9, F50, q50_8, q50, go_sem, Int.reduceToNat, Int.reduceLE, Int.reduceLT, Int.reduceEq, Int.reduceNe, Int.reduceNeg, Int.reduceAdd, Int.reduceSub, Int.reduceMul, Nat.reducePow, Nat.reduceDiv, Nat.reduceMod, Nat.reduceAdd, Nat.reduceSub, Nat.reduceMul, Nat.reduceLT, Nat.reduceLeDiff, Nat.reduceEqDiff, Nat.reduceBEq, reduceCtorEq, reduceIte]
  · have hc : a ≠ b := fun e => hab (by rw [e])
    simp only [r50_0, r50_1, r50_2, r50_3, r50_4, r50_5, r50_6, r50_7, r50_9, F50, q50_8, q50, go_sem, Int.reduceToNat, Int.reduceLE, Int.reduceLT, Int.reduceEq, Int.reduceNe, Int.reduceNeg, Int.reduceAdd, Int.reduceSub, Int.reduceMul, Nat.reducePow, Nat.reduceDiv, Nat.reduceMod, Nat.reduceAdd, Nat.reduceSub, Nat.reduceMul, Nat.reduceLT, Nat.reduceLeDiff, Nat.reduceEqDiff, Nat.reduceBEq, reduceCtorEq, reduceIte, hab, hc]
theorem getD_bytS (l : List (List UInt8)) (i : Nat) (h : i < l.length) : (l.map bytS).getD i [] = [.byt (l.getD i []) .no] := getD_map bytS l i h
theorem drop_consG (l : List (List UInt8)) (i : Nat) (h : i < l.length) : l.drop i = l.getD i [] :: l.drop (i + 1) := drop_cons l i h
/-- Lists of byte strings that memory can hold. -/
def okG (g : List (List UInt8)) : Prop := g.length ≤ 1000000000 ∧ ∀ b ∈ g, b.length ≤ 140737488355328
theorem okG.get {g : List (List UInt8)} (h : okG g) (i : Nat) : (g.getD i []).length ≤ 140737488355328 := by
  rw [List.getD_eq_getElem?_getD]
  cases hi : g[i]? with
  | none => simp
  | some b => exact h.2 b (List.mem_of_getElem? hi)
theorem l34 (a b : List (List UInt8)) (ha : okG a) (hab : a.length = b.length) : ∀ (n i : Nat), a.length - i = n → i ≤ a.length →
    run T (.loop r34_8) ⟨[(0, .lst 1 (a.map bytS) .no), (1, .lst 1 (b.map bytS) .no), (5, .int .i64 i)], [], []⟩ = if a.drop i = b.drop i then some (.x 0, ⟨[], [], []⟩) else some (.r, ⟨[(4, .bool false)], [], []⟩) := by
  intro n
  induction n with
  | zero =>
    intro i h0 h1
    have hi : i = a.length := by omega
    subst hi
    rw [run_loop]
    have e : List.drop a.length b = [] := by rw [hab, List.drop_length]
    simp only [r34_0, r34_1, r34_2, r34_3, r34_4, r34_5, r34_6, r34_7, r34_9, F34, q34_8, q34, go_sem, Int.reduceToNat, Int.reduceLE, Int.reduceLT, Int.reduceEq, Int.reduceNe, Int.reduceNeg, Int.reduceAdd, Int.reduceSub, Int.reduceMul, Nat.reducePow, Nat.reduceDiv, Nat.reduceMod, Nat.reduceAdd, Nat.reduceSub, Nat.reduceMul, Nat.reduceLT, Nat.reduceLeDiff, Nat.reduceEqDiff, Nat.reduceBEq, reduceCtorEq, reduceIte, List.drop_length, e]
  | succ n ih =>
    intro i h0 h1
    have hi : i < a.length := by omega
    have hi2 : i < b.length := by omega
    rw [run_loop, drop_consG a i hi, drop_consG b i hi2]
    have e3 := wsucc i (by have := ha.1; omega)
    simp only [r34_0, r34_1, r34_2, r34_3, r34_4, r34_5, r34_6, r34_7, r34_9, F34, q34_8, q34, go_sem, Int.reduceToNat, Int.reduceLE, Int.reduceLT, Int.reduceEq, Int.reduceNe, Int.reduceNeg, Int.reduceAdd, Int.reduceSub, Int.reduceMul, Nat.reducePow, Nat.reduceDiv, Nat.reduceMod, Nat.reduceAdd, Nat.reduceSub, Nat.reduceMul, Nat.reduceLT, Nat.reduceLeDiff, Nat.reduceEqDiff, Nat.reduceBEq, reduceCtorEq, reduceIte, hi, hi2, e3, ih (i + 1) (by omega) (by omega), List.cons.injEq, getD_bytS a i hi, getD_bytS b i hi2, f50 _ _ (ha.get i), S_50]
    by_cases hc : a.getD i [] = b.getD i [] <;> simp only [hc, go_sem, Int.reduceToNat, Int.reduceLE, Int.reduceLT, Int.reduceEq, Int.reduceNe, Int.reduceNeg, Int.reduceAdd, Int.reduceSub, Int.reduceMul, Nat.reducePow, Nat.reduceDiv, Nat.reduceMod, Nat.reduceAdd, Nat.reduceSub, Nat.reduceMul, Nat.reduceLT, Nat.reduceLeDiff, Nat.reduceEqDiff, Nat.reduceBEq, reduceCtorEq, reduceIte]
theorem f34 (a b : List (List UInt8)) (ha : okG a) : call T 34 [.lst 1 (a.map bytS) .no, .lst 1 (b.map bytS) .no] [] 0 = some ⟨.bool (decide (a = b)), [], []⟩ := by
  rw [call_code T_34]
  by_cases hab : a.length = b.length
  · have h := l34 a b ha hab _ 0 rfl (by omega)
    simp only [Int.natCast_zero, List.drop_zero] at h
    simp only [r34_0, r34_1, r34_2, r34_3, r34_4, r34_5, r34_6, r34_7, r34_9, F34, q34_8, q34, go_sem, Int.reduceToNat, Int.reduceLE, Int.reduceLT, Int.reduceEq, Int.reduceNe, Int.reduceNeg, Int.reduceAdd, Int.reduceSub, Int.reduceMul, Nat.reducePow, Nat.reduceDiv, Nat.reduceMod, Nat.reduceAdd, Nat.reduceSub, Nat.reduceMul, Nat.reduceLT, Nat.reduceLeDiff, Nat.reduceEqDiff, Nat.reduceBEq, reduceCtorEq, reduceIte, hab, h]
    by_cases hc : a = b <;> simp only [hc, r34_0, r34_1, r34_2, r34_3, r34_4, r34_5, r34_6, r34_7, r34_9, F34, q34_8, q34, go_sem, Int.reduceToNat, Int.reduceLE, Int.reduceLT, Int.reduceEq, Int.reduceNe, Int.reduceNeg, Int.reduceAdd, Int.reduceSub, Int.reduceMul, Nat.reducePow, Nat.reduceDiv, Nat.reduceMod, Nat.reduceAdd, Nat.reduceSub, Nat.reduceMul, Nat.reduceLT, Nat.reduceLeDiff, Nat.reduceEqDiff, Nat.reduceBEq, reduceCtorEq, reduceIte]
  · have hc : a ≠ b := fun e => hab (by rw [e])
    simp only [r34_0, r34_1, r34_2, r34_3, r34_4, r34_5, r34_6, r34_7, r34_9, F34, q34_8, q34, go_sem, Int.reduceToNat, Int.reduceLE, Int.reduceLT, Int.reduceEq, Int.reduceNe, Int.reduceNeg, Int.reduceAdd, Int.reduceSub, Int.reduceMul, Nat.reducePow, Nat.reduceDiv, Nat.reduceMod, Nat.reduceAdd, Nat.reduceSub, Nat.reduceMul, Nat.reduceLT, Nat.reduceLeDiff, Nat.reduceEqDiff, Nat.reduceBEq, reduceCtorEq, reduceIte, hab, hc]
def modI (n m : Int) : Int := if m < 1 then 0 else if n.tmod m < 0 then n.tmod m + m else n.tmod m
theorem f10 (a b : Int) (ha : -9223372036854775808 ≤ a) (ha2 : a ≤ 9223372036854775807) (hb : b ≤ 9223372036854775807) : call T 10 [.int .i64 a, .int .i64 b] [] 0 = some ⟨.int .i64 (modI a b), [], []⟩ := by
  rw [call_code T_10]
  by_cases h : b < 1
  · simp only [r10_0, r10_1, r10_2, r10_3, r10_4, r10_5, r10_6, F10, q10, go_sem, Int.reduceToNat, Int.reduceLE, Int.reduceLT, Int.reduceEq, Int.reduceNe, Int.reduceNeg, Int.reduceAdd, Int.reduceSub, Int.reduceMul, Nat.reducePow, Nat.reduceDiv, Nat.reduceMod, Nat.reduceAdd, Nat.reduceSub, Nat.reduceMul, Nat.reduceLT, Nat.reduceLeDiff, Nat.reduceEqDiff, Nat.reduceBEq, reduceCtorEq, reduceIte, h, modI]
  · have h0 : ¬ b = 0 := by omega
    simp only [r10_0, r10_1, r10_2, r10_3, r10_4, r10_5, r10_6, F10, q10, go_sem, Int.reduceToNat, Int.reduceLE, Int.reduceLT, Int.reduceEq, Int.reduceNe, Int.reduceNeg, Int.reduceAdd, Int.reduceSub, Int.reduceMul, Nat.reducePow, Nat.reduceDiv, Nat.reduceMod, Nat.reduceAdd, Nat.reduceSub, Nat.reduceMul, Nat.reduceLT, Nat.reduceLeDiff, Nat.reduceEqDiff, Nat.reduceBEq, reduceCtorEq, reduceIte, h, h0, modI]
    by_cases h2 : a.tmod b < 0
    · have h3 : -b < a.tmod b := by
        have := Int.lt_tmod_of_pos a (b := b) (by omega); omega
      have h4 : IntKind.i64.wrap (a.tmod b + b) = a.tmod b + b := w64 (by omega) (by omega)
      simp only [h2, r10_0, r10_1, r10_2, r10_3, r10_4, r10_5, r10_6, F10, q10, go_sem, Int.reduceToNat, Int.reduceLE, Int.reduceLT, Int.reduceEq, Int.reduceNe, Int.reduceNeg, Int.reduceAdd, Int.reduceSub, Int.reduceMul, Nat.reducePow, Nat.reduceDiv, Nat.reduceMod, Nat.reduceAdd, Nat.reduceSub, Nat.reduceMul, Nat.reduceLT, Nat.reduceLeDiff, Nat.reduceEqDiff, Nat.reduceBEq, reduceCtorEq, reduceIte, h4]
    · simp only [h2, r10_0, r10_1, r10_2, r10_3, r10_4, r10_5, r10_6, F10, q10, go_sem, Int.reduceToNat, Int.reduceLE, Int.reduceLT, Int.reduceEq, Int.reduceNe, Int.reduceNeg, Int.reduceAdd, Int.reduceSub, Int.reduceMul, Nat.reducePow, Nat.reduceDiv, Nat.reduceMod, Nat.reduceAdd, Nat.reduceSub, Nat.reduceMul, Nat.reduceLT, Nat.reduceLeDiff, Nat.reduceEqDiff, Nat.reduceBEq, reduceCtorEq, reduceIte]
def codesO (B : List UInt8) (at' : Nat) : SObj := .rc [.byt B .no, .int .i64 at']
theorem f12 (a : List UInt8) (n : Nat) : call T 12 [.byt a .no, .int .i64 n] [] 0 = some ⟨.ptr 100 0, [(100, codesO (a.take n) 0)], []⟩ := by
  rw [call_code T_12]
  by_cases h : n < a.length
  · have h2 : n ≤ a.length := by omega
    simp only [r12_0, r12_1, r12_2, r12_3, F12, q12, go_sem, Int.reduceToNat, Int.reduceLE, Int.reduceLT, Int.reduceEq, Int.reduceNe, Int.reduceNeg, Int.reduceAdd, Int.reduceSub, Int.reduceMul, Nat.reducePow, Nat.reduceDiv, Nat.reduceMod, Nat.reduceAdd, Nat.reduceSub, Nat.reduceMul, Nat.reduceLT, Nat.reduceLeDiff, Nat.reduceEqDiff, Nat.reduceBEq, reduceCtorEq, reduceIte, h, h2, codesO]
    rfl
  · simp only [r12_0, r12_1, r12_2, r12_3, F12, q12, go_sem, Int.reduceToNat, Int.reduceLE, Int.reduceLT, Int.reduceEq, Int.reduceNe, Int.reduceNeg, Int.reduceAdd, Int.reduceSub, Int.reduceMul, Nat.reducePow, Nat.reduceDiv, Nat.reduceMod, Nat.reduceAdd, Nat.reduceSub, Nat.reduceMul, Nat.reduceLT, Nat.reduceLeDiff, Nat.reduceEqDiff, Nat.reduceBEq, reduceCtorEq, reduceIte, h, codesO, List.take_of_length_le (Nat.le_of_not_lt h)]
    rfl
theorem f22 (a : List UInt8) (b : Nat) : call T 22 [.ptr 0 0] [codesO a b] 0 = some ⟨.bool (decide (b < a.length)), [(0, codesO a b)], []⟩ := by
  rw [call_code T_22]
  simp only [r22_0, r22_1, F22, q22, go_sem, Int.reduceToNat, Int.reduceLE, Int.reduceLT, Int.reduceEq, Int.reduceNe, Int.reduceNeg, Int.reduceAdd, Int.reduceSub, Int.reduceMul, Nat.reducePow, Nat.reduceDiv, Nat.reduceMod, Nat.reduceAdd, Nat.reduceSub, Nat.reduceMul, Nat.reduceLT, Nat.reduceLeDiff, Nat.reduceEqDiff, Nat.reduceBEq, reduceCtorEq, reduceIte, codesO]
def nextV (a : List UInt8) (b n : Nat) : Nat := if b < a.length then (a.getD b 0).toNat % n else 0
def nextA (a : List UInt8) (b : Nat) : Nat := if b < a.length then b + 1 else b
theorem f23 (a : List UInt8) (b n : Nat) (hn : 0 < n) (hl : a.length ≤ 1000000000000) : call T 23 [.ptr 0 0, .int .i64 n] [codesO a b] 0 = some ⟨.int .i64 (nextV a b n), [(0, codesO a (nextA a b))], []⟩ := by
  rw [call_code T_23]
  by_cases h : b < a.length
  · have h1 : ¬ a.length ≤ b := by omega
    have e1 : IntKind.i64.wrap ((b : Int) + 1) = ((b + 1 : Nat) : Int) := by rw [w64 (by omega) (by omega)]; omega
    have e2 : IntKind.i64.wrap (((b + 1 : Nat) : Int) - 1) = (b : Int) := by rw [w64 (by omega) (by omega)]; omega
    have e3 : ¬ (n : Int) = 0 := by omega
    simp only [r23_0, r23_1, r23_2, r23_3, r23_4, F23, q23, go_sem, Int.reduceToNat, Int.reduceLE, Int.reduceLT, Int.reduceEq, Int.reduceNe, Int.reduceNeg, Int.reduceAdd, Int.reduceSub, Int.reduceMul, Nat.reducePow, Nat.reduceDiv, Nat.reduceMod, Nat.reduceAdd, Nat.reduceSub, Nat.reduceMul, Nat.reduceLT, Nat.reduceLeDiff, Nat.reduceEqDiff, Nat.reduceBEq, reduceCtorEq, reduceIte, codesO, h, h1, e1, e2, e3, nextV, nextA, ← Int.ofNat_tmod]
  · have h1 : a.length ≤ b := by omega
    simp only [r23_0, r23_1, r23_2, r23_3, r23_4, F23, q23, go_sem, Int.reduceToNat, Int.reduceLE, Int.reduceLT, Int.reduceEq, Int.reduceNe, Int.reduceNeg, Int.reduceAdd, Int.reduceSub, Int.reduceMul, Nat.reducePow, Nat.reduceDiv, Nat.reduceMod, Nat.reduceAdd, Nat.reduceSub, Nat.reduceMul, Nat.reduceLT, Nat.reduceLeDiff, Nat.reduceEqDiff, Nat.reduceBEq, reduceCtorEq, reduceIte, codesO, h, h1, nextV, nextA, Int.natCast_zero]
def seedB (a : List UInt8) : List UInt8 := a.take 32 ++ List.replicate (32 - a.length) 0
theorem f29 (a : List UInt8) : call T 29 [.byt a .no] [] 0 = some ⟨.byt (seedB a) .no, [], []⟩ := by
  rw [call_code T_29]
  have h : 32 ≤ (List.take 32 a).length + (List.drop (List.take 32 a).length (List.replicate 32 (0 : UInt8))).length := by simp; omega
  simp only [r29_0, r29_1, r29_2, r29_3, F29, q29, go_sem, Int.reduceToNat, Int.reduceLE, Int.reduceLT, Int.reduceEq, Int.reduceNe, Int.reduceNeg, Int.reduceAdd, Int.reduceSub, Int.reduceMul, Nat.reducePow, Nat.reduceDiv, Nat.reduceMod, Nat.reduceAdd, Nat.reduceSub, Nat.reduceMul, Nat.reduceLT, Nat.reduceLeDiff, Nat.reduceEqDiff, Nat.reduceBEq, reduceCtorEq, reduceIte, h]
  have e : List.take 32 (List.take 32 a ++ List.drop (List.take 32 a).length (List.replicate 32 0)) = seedB a := by
    rw [List.take_of_length_le (by simp; omega), seedB, List.drop_replicate]
    congr 2
    simp; omega
  rw [e]
end Go.Proofs.Ytghggnfomlibjaa
