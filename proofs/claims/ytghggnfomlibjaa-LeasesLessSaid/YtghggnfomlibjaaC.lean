/-
  The program's sweeps; written by genC.py.
-/
import Derived.Test.YtghggnfomlibjaaB
set_option maxRecDepth 100000
set_option linter.unusedSimpArgs false
set_option linter.unusedVariables false
namespace Go.Proofs.Ytghggnfomlibjaa
open Go.Sy

theorem f43 (a b : List UInt8) : call T 43 [.byt a .no, .byt b .no] [] 0 = some ⟨.bool (decide (a = b)), [], []⟩ := by
  rw [call_code T_43]
  simp only [r43_0, r43_1, F43, q43, go_sem, Int.reduceToNat, Int.reduceLE, Int.reduceLT, Int.reduceEq, Int.reduceNe, Int.reduceNeg, Int.reduceAdd, Int.reduceSub, Int.reduceMul, Nat.reducePow, Nat.reduceDiv, Nat.reduceMod, Nat.reduceAdd, Nat.reduceSub, Nat.reduceMul, Nat.reduceLT, Nat.reduceLeDiff, Nat.reduceEqDiff, Nat.reduceBEq, reduceCtorEq, reduceIte]
theorem f42 (g f : List UInt8) : call T 42 [.byt f .no, .ptr 0 0] [.rc [.byt g .no]] 0 = some ⟨.bool (decide (f = g)), [(0, .rc [.byt g .no])], []⟩ := by
  rw [call_code T_42]
  simp only [r42_0, r42_1, F42, q42, go_sem, Int.reduceToNat, Int.reduceLE, Int.reduceLT, Int.reduceEq, Int.reduceNe, Int.reduceNeg, Int.reduceAdd, Int.reduceSub, Int.reduceMul, Nat.reducePow, Nat.reduceDiv, Nat.reduceMod, Nat.reduceAdd, Nat.reduceSub, Nat.reduceMul, Nat.reduceLT, Nat.reduceLeDiff, Nat.reduceEqDiff, Nat.reduceBEq, reduceCtorEq, reduceIte, f43, S_43]

theorem l55a (g : List UInt8) (xs : List (List UInt8)) (hl : xs.length ≤ 1000000000)  : ∀ (n i : Nat), xs.length - i = n → i ≤ xs.length →
    run T (.loop r55_7) ⟨[(0, .lst 1 (xs.map bytS) .no), (1, .fn 42 [] [.ptr 0 0]), (7, .int .i64 xs.length), (8, .int .i64 i)], [(0, .rc [.byt g .no])], []⟩ =
      match (xs.drop i).findIdx? (fun x => decide (x = g)) with
      | some k => some (.r, ⟨[(4, .int .i64 ((i + k : Nat) : Int))], [(0, .rc [.byt g .no])], []⟩)
      | none => some (.x 0, ⟨[], [(0, .rc [.byt g .no])], []⟩) := by
  intro n
  induction n with
  | zero =>
    intro i h0 h1
    have hi : i = xs.length := by omega
    subst hi
    rw [run_loop]
    simp only [r55_0, r55_1, r55_2, r55_3, r55_4, r55_5, r55_6, r55_8, F55, q55_7, q55, go_sem, Int.reduceToNat, Int.reduceLE, Int.reduceLT, Int.reduceEq, Int.reduceNe, Int.reduceNeg, Int.reduceAdd, Int.reduceSub, Int.reduceMul, Nat.reducePow, Nat.reduceDiv, Nat.reduceMod, Nat.reduceAdd, Nat.reduceSub, Nat.reduceMul, Nat.reduceLT, Nat.reduceLeDiff, Nat.reduceEqDiff, Nat.reduceBEq, reduceCtorEq, reduceIte, List.drop_length, List.findIdx?_nil]
  | succ n ih =>
    intro i h0 h1
    have hi : i < xs.length := by omega
    rw [run_loop, drop_consG xs i hi]
    have e3 := wsucc i (by omega)
    simp only [r55_0, r55_1, r55_2, r55_3, r55_4, r55_5, r55_6, r55_8, F55, q55_7, q55, go_sem, Int.reduceToNat, Int.reduceLE, Int.reduceLT, Int.reduceEq, Int.reduceNe, Int.reduceNeg, Int.reduceAdd, Int.reduceSub, Int.reduceMul, Nat.reducePow, Nat.reduceDiv, Nat.reduceMod, Nat.reduceAdd, Nat.reduceSub, Nat.reduceMul, Nat.reduceLT, Nat.reduceLeDiff, Nat.reduceEqDiff, Nat.reduceBEq, reduceCtorEq, reduceIte, hi, e3, getD_bytS xs i hi, f42, S_42, List.findIdx?_cons]
    have h := ih (i + 1) (by omega) (by omega)
    by_cases hc : xs.getD i [] = g
    · simp only [hc, go_sem, Int.reduceToNat, Int.reduceLE, Int.reduceLT, Int.reduceEq, Int.reduceNe, Int.reduceNeg, Int.reduceAdd, Int.reduceSub, Int.reduceMul, Nat.reducePow, Nat.reduceDiv, Nat.reduceMod, Nat.reduceAdd, Nat.reduceSub, Nat.reduceMul, Nat.reduceLT, Nat.reduceLeDiff, Nat.reduceEqDiff, Nat.reduceBEq, reduceCtorEq, reduceIte, r55_0, r55_1, r55_2, r55_3, r55_4, r55_5, r55_6, r55_8, F55, q55_7, q55]
    · simp only [hc, go_sem, Int.reduceToNat, Int.reduceLE, Int.reduceLT, Int.reduceEq, Int.reduceNe, Int.reduceNeg, Int.reduceAdd, Int.reduceSub, Int.reduceMul, Nat.reducePow, Nat.reduceDiv, Nat.reduceMod, Nat.reduceAdd, Nat.reduceSub, Nat.reduceMul, Nat.reduceLT, Nat.reduceLeDiff, Nat.reduceEqDiff, Nat.reduceBEq, reduceCtorEq, reduceIte, r55_0, r55_1, r55_2, r55_3, r55_4, r55_5, r55_6, r55_8, F55, q55_7, q55, h]
      cases (xs.drop (i + 1)).findIdx? (fun x => decide (x = g)) with
      | none => rfl
      | some k => simp only [Option.map_some]; rw [show i + 1 + k = i + (k + 1) by omega]
theorem f55a (g : List UInt8) (xs : List (List UInt8)) (hl : xs.length ≤ 1000000000)  : call T 55 [.lst 1 (xs.map bytS) .no, .fn 42 [] [.ptr 0 0]] [.rc [.byt g .no]] 0 =
    some ⟨.int .i64 (match xs.findIdx? (fun x => decide (x = g)) with | some k => (k : Int) | none => -1), [(0, .rc [.byt g .no])], []⟩ := by
  have h := l55a g xs hl _ 0 rfl (by omega)
  rw [call_code T_55]
  simp only [Int.natCast_zero, List.drop_zero] at h
  simp only [r55_0, r55_1, r55_2, r55_3, r55_4, r55_5, r55_6, r55_8, F55, q55_7, q55, go_sem, Int.reduceToNat, Int.reduceLE, Int.reduceLT, Int.reduceEq, Int.reduceNe, Int.reduceNeg, Int.reduceAdd, Int.reduceSub, Int.reduceMul, Nat.reducePow, Nat.reduceDiv, Nat.reduceMod, Nat.reduceAdd, Nat.reduceSub, Nat.reduceMul, Nat.reduceLT, Nat.reduceLeDiff, Nat.reduceEqDiff, Nat.reduceBEq, reduceCtorEq, reduceIte, h]
  cases xs.findIdx? (fun x => decide (x = g)) with
  | none => simp only [r55_0, r55_1, r55_2, r55_3, r55_4, r55_5, r55_6, r55_8, F55, q55_7, q55, go_sem, Int.reduceToNat, Int.reduceLE, Int.reduceLT, Int.reduceEq, Int.reduceNe, Int.reduceNeg, Int.reduceAdd, Int.reduceSub, Int.reduceMul, Nat.reducePow, Nat.reduceDiv, Nat.reduceMod, Nat.reduceAdd, Nat.reduceSub, Nat.reduceMul, Nat.reduceLT, Nat.reduceLeDiff, Nat.reduceEqDiff, Nat.reduceBEq, reduceCtorEq, reduceIte]
  | some k => simp only [r55_0, r55_1, r55_2, r55_3, r55_4, r55_5, r55_6, r55_8, F55, q55_7, q55, go_sem, Int.reduceToNat, Int.reduceLE, Int.reduceLT, Int.reduceEq, Int.reduceNe, Int.reduceNeg, Int.reduceAdd, Int.reduceSub, Int.reduceMul, Nat.reducePow, Nat.reduceDiv, Nat.reduceMod, Nat.reduceAdd, Nat.reduceSub, Nat.reduceMul, Nat.reduceLT, Nat.reduceLeDiff, Nat.reduceEqDiff, Nat.reduceBEq, reduceCtorEq, reduceIte]
theorem f40a (g : List UInt8) (xs : List (List UInt8)) (hl : xs.length ≤ 1000000000)  : call T 40 [.lst 1 (xs.map bytS) .no, .fn 42 [] [.ptr 0 0]] [.rc [.byt g .no]] 0 = some ⟨.bool (xs.any fun x => decide (x = g)), [(0, .rc [.byt g .no])], []⟩ := by
  have h := f55a g xs hl
  rw [call_code T_40]
  simp only [r40_0, r40_1, F40, q40, go_sem, Int.reduceToNat, Int.reduceLE, Int.reduceLT, Int.reduceEq, Int.reduceNe, Int.reduceNeg, Int.reduceAdd, Int.reduceSub, Int.reduceMul, Nat.reducePow, Nat.reduceDiv, Nat.reduceMod, Nat.reduceAdd, Nat.reduceSub, Nat.reduceMul, Nat.reduceLT, Nat.reduceLeDiff, Nat.reduceEqDiff, Nat.reduceBEq, reduceCtorEq, reduceIte, h, S_55]
  cases hx : xs.findIdx? (fun x => decide (x = g)) with
  | none =>
    have : (xs.any fun x => decide (x = g)) = false := by
      rw [List.findIdx?_eq_none_iff] at hx
      rw [List.any_eq_false]
      intro x hm
      simpa using hx x hm
    simp only [this, go_sem, Int.reduceToNat, Int.reduceLE, Int.reduceLT, Int.reduceEq, Int.reduceNe, Int.reduceNeg, Int.reduceAdd, Int.reduceSub, Int.reduceMul, Nat.reducePow, Nat.reduceDiv, Nat.reduceMod, Nat.reduceAdd, Nat.reduceSub, Nat.reduceMul, Nat.reduceLT, Nat.reduceLeDiff, Nat.reduceEqDiff, Nat.reduceBEq, reduceCtorEq, reduceIte]
  | some k =>
    have : (xs.any fun x => decide (x = g)) = true := by
      rw [List.findIdx?_eq_some_iff_getElem] at hx
      obtain ⟨h1, h2, _⟩ := hx
      exact List.any_eq_true.2 ⟨_, List.getElem_mem h1, h2⟩
    simp only [this, go_sem, Int.reduceToNat, Int.reduceLE, Int.reduceLT, Int.reduceEq, Int.reduceNe, Int.reduceNeg, Int.reduceAdd, Int.reduceSub, Int.reduceMul, Nat.reducePow, Nat.reduceDiv, Nat.reduceMod, Nat.reduceAdd, Nat.reduceSub, Nat.reduceMul, Nat.reduceLT, Nat.reduceLeDiff, Nat.reduceEqDiff, Nat.reduceBEq, reduceCtorEq, reduceIte]

theorem f41 (g : List UInt8) (fs : List (List UInt8)) (hf : fs.length ≤ 1000000000) : call T 41 [.byt g .no, .ptr 0 0] [.rc [.lst 1 (fs.map bytS) .no]] 0 = some ⟨.bool (!fs.any fun x => decide (x = g)), [(0, .rc [.lst 1 (fs.map bytS) .no])], []⟩ := by
  rw [call_code T_41]
  simp only [r41_0, r41_1, F41, q41, go_sem, Int.reduceToNat, Int.reduceLE, Int.reduceLT, Int.reduceEq, Int.reduceNe, Int.reduceNeg, Int.reduceAdd, Int.reduceSub, Int.reduceMul, Nat.reducePow, Nat.reduceDiv, Nat.reduceMod, Nat.reduceAdd, Nat.reduceSub, Nat.reduceMul, Nat.reduceLT, Nat.reduceLeDiff, Nat.reduceEqDiff, Nat.reduceBEq, reduceCtorEq, reduceIte, f40a g fs hf, S_40]

theorem l55b (fs : List (List UInt8)) (hf : fs.length ≤ 1000000000) (xs : List (List UInt8)) (hl : xs.length ≤ 1000000000)  : ∀ (n i : Nat), xs.length - i = n → i ≤ xs.length →
    run T (.loop r55_7) ⟨[(0, .lst 1 (xs.map bytS) .no), (1, .fn 41 [] [.ptr 0 0]), (7, .int .i64 xs.length), (8, .int .i64 i)], [(0, .rc [.lst 1 (fs.map bytS) .no])], []⟩ =
      match (xs.drop i).findIdx? (fun x => !fs.any fun y => decide (y = x)) with
      | some k => some (.r, ⟨[(4, .int .i64 ((i + k : Nat) : Int))], [(0, .rc [.lst 1 (fs.map bytS) .no])], []⟩)
      | none => some (.x 0, ⟨[], [(0, .rc [.lst 1 (fs.map bytS) .no])], []⟩) := by
  intro n
  induction n with
  | zero =>
    intro i h0 h1
    have hi : i = xs.length := by omega
    subst hi
    rw [run_loop]
    simp only [r55_0, r55_1, r55_2, r55_3, r55_4, r55_5, r55_6, r55_8, F55, q55_7, q55, go_sem, Int.reduceToNat, Int.reduceLE, Int.reduceLT, Int.reduceEq, Int.reduceNe, Int.reduceNeg, Int.reduceAdd, Int.reduceSub, Int.reduceMul, Nat.reducePow, Nat.reduceDiv, Nat.reduceMod, Nat.reduceAdd, Nat.reduceSub, Nat.reduceMul, Nat.reduceLT, Nat.reduceLeDiff, Nat.reduceEqDiff, Nat.reduceBEq, reduceCtorEq, reduceIte, List.drop_length, List.findIdx?_nil]
  | succ n ih =>
    intro i h0 h1
    have hi : i < xs.length := by omega
    rw [run_loop, drop_consG xs i hi]
    have e3 := wsucc i (by omega)
    simp only [r55_0, r55_1, r55_2, r55_3, r55_4, r55_5, r55_6, r55_8, F55, q55_7, q55, go_sem, Int.reduceToNat, Int.reduceLE, Int.reduceLT, Int.reduceEq, Int.reduceNe, Int.reduceNeg, Int.reduceAdd, Int.reduceSub, Int.reduceMul, Nat.reducePow, Nat.reduceDiv, Nat.reduceMod, Nat.reduceAdd, Nat.reduceSub, Nat.reduceMul, Nat.reduceLT, Nat.reduceLeDiff, Nat.reduceEqDiff, Nat.reduceBEq, reduceCtorEq, reduceIte, hi, e3, getD_bytS xs i hi, f41 _ fs hf, S_41, List.findIdx?_cons]
    have h := ih (i + 1) (by omega) (by omega)
    by_cases hc : (!fs.any fun y => decide (y = xs.getD i [])) = true
    · simp only [hc, go_sem, Int.reduceToNat, Int.reduceLE, Int.reduceLT, Int.reduceEq, Int.reduceNe, Int.reduceNeg, Int.reduceAdd, Int.reduceSub, Int.reduceMul, Nat.reducePow, Nat.reduceDiv, Nat.reduceMod, Nat.reduceAdd, Nat.reduceSub, Nat.reduceMul, Nat.reduceLT, Nat.reduceLeDiff, Nat.reduceEqDiff, Nat.reduceBEq, reduceCtorEq, reduceIte, r55_0, r55_1, r55_2, r55_3, r55_4, r55_5, r55_6, r55_8, F55, q55_7, q55]
    · simp only [hc, go_sem, Int.reduceToNat, Int.reduceLE, Int.reduceLT, Int.reduceEq, Int.reduceNe, Int.reduceNeg, Int.reduceAdd, Int.reduceSub, Int.reduceMul, Nat.reducePow, Nat.reduceDiv, Nat.reduceMod, Nat.reduceAdd, Nat.reduceSub, Nat.reduceMul, Nat.reduceLT, Nat.reduceLeDiff, Nat.reduceEqDiff, Nat.reduceBEq, reduceCtorEq, reduceIte, r55_0, r55_1, r55_2, r55_3, r55_4, r55_5, r55_6, r55_8, F55, q55_7, q55, h]
      cases (xs.drop (i + 1)).findIdx? (fun x => !fs.any fun y => decide (y = x)) with
      | none => rfl
      | some k => simp only [Option.map_some]; rw [show i + 1 + k = i + (k + 1) by omega]
theorem f55b (fs : List (List UInt8)) (hf : fs.length ≤ 1000000000) (xs : List (List UInt8)) (hl : xs.length ≤ 1000000000)  : call T 55 [.lst 1 (xs.map bytS) .no, .fn 41 [] [.ptr 0 0]] [.rc [.lst 1 (fs.map bytS) .no]] 0 =
    some ⟨.int .i64 (match xs.findIdx? (fun x => !fs.any fun y => decide (y = x)) with | some k => (k : Int) | none => -1), [(0, .rc [.lst 1 (fs.map bytS) .no])], []⟩ := by
  have h := l55b fs hf xs hl _ 0 rfl (by omega)
  rw [call_code T_55]
  simp only [Int.natCast_zero, List.drop_zero] at h
  simp only [r55_0, r55_1, r55_2, r55_3, r55_4, r55_5, r55_6, r55_8, F55, q55_7, q55, go_sem, Int.reduceToNat, Int.reduceLE, Int.reduceLT, Int.reduceEq, Int.reduceNe, Int.reduceNeg, Int.reduceAdd, Int.reduceSub, Int.reduceMul, Nat.reducePow, Nat.reduceDiv, Nat.reduceMod, Nat.reduceAdd, Nat.reduceSub, Nat.reduceMul, Nat.reduceLT, Nat.reduceLeDiff, Nat.reduceEqDiff, Nat.reduceBEq, reduceCtorEq, reduceIte, h]
  cases xs.findIdx? (fun x => !fs.any fun y => decide (y = x)) with
  | none => simp only [r55_0, r55_1, r55_2, r55_3, r55_4, r55_5, r55_6, r55_8, F55, q55_7, q55, go_sem, Int.reduceToNat, Int.reduceLE, Int.reduceLT, Int.reduceEq, Int.reduceNe, Int.reduceNeg, Int.reduceAdd, Int.reduceSub, Int.reduceMul, Nat.reducePow, Nat.reduceDiv, Nat.reduceMod, Nat.reduceAdd, Nat.reduceSub, Nat.reduceMul, Nat.reduceLT, Nat.reduceLeDiff, Nat.reduceEqDiff, Nat.reduceBEq, reduceCtorEq, reduceIte]
  | some k => simp only [r55_0, r55_1, r55_2, r55_3, r55_4, r55_5, r55_6, r55_8, F55, q55_7, q55, go_sem, Int.reduceToNat, Int.reduceLE, Int.reduceLT, Int.reduceEq, Int.reduceNe, Int.reduceNeg, Int.reduceAdd, Int.reduceSub, Int.reduceMul, Nat.reducePow, Nat.reduceDiv, Nat.reduceMod, Nat.reduceAdd, Nat.reduceSub, Nat.reduceMul, Nat.reduceLT, Nat.reduceLeDiff, Nat.reduceEqDiff, Nat.reduceBEq, reduceCtorEq, reduceIte]
theorem f40b (fs : List (List UInt8)) (hf : fs.length ≤ 1000000000) (xs : List (List UInt8)) (hl : xs.length ≤ 1000000000)  : call T 40 [.lst 1 (xs.map bytS) .no, .fn 41 [] [.ptr 0 0]] [.rc [.lst 1 (fs.map bytS) .no]] 0 = some ⟨.bool (xs.any fun x => !fs.any fun y => decide (y = x)), [(0, .rc [.lst 1 (fs.map bytS) .no])], []⟩ := by
  have h := f55b fs hf xs hl
  rw [call_code T_40]
  simp only [r40_0, r40_1, F40, q40, go_sem, Int.reduceToNat, Int.reduceLE, Int.reduceLT, Int.reduceEq, Int.reduceNe, Int.reduceNeg, Int.reduceAdd, Int.reduceSub, Int.reduceMul, Nat.reducePow, Nat.reduceDiv, Nat.reduceMod, Nat.reduceAdd, Nat.reduceSub, Nat.reduceMul, Nat.reduceLT, Nat.reduceLeDiff, Nat.reduceEqDiff, Nat.reduceBEq, reduceCtorEq, reduceIte, h, S_55]
  cases hx : xs.findIdx? (fun x => !fs.any fun y => decide (y = x)) with
  | none =>
    have : (xs.any fun x => !fs.any fun y => decide (y = x)) = false := by
      rw [List.findIdx?_eq_none_iff] at hx
      rw [List.any_eq_false]
      intro x hm
      simpa using hx x hm
    simp only [this, go_sem, Int.reduceToNat, Int.reduceLE, Int.reduceLT, Int.reduceEq, Int.reduceNe, Int.reduceNeg, Int.reduceAdd, Int.reduceSub, Int.reduceMul, Nat.reducePow, Nat.reduceDiv, Nat.reduceMod, Nat.reduceAdd, Nat.reduceSub, Nat.reduceMul, Nat.reduceLT, Nat.reduceLeDiff, Nat.reduceEqDiff, Nat.reduceBEq, reduceCtorEq, reduceIte]
  | some k =>
    have : (xs.any fun x => !fs.any fun y => decide (y = x)) = true := by
      rw [List.findIdx?_eq_some_iff_getElem] at hx
      obtain ⟨h1, h2, _⟩ := hx
      exact List.any_eq_true.2 ⟨_, List.getElem_mem h1, h2⟩
    simp only [this, go_sem, Int.reduceToNat, Int.reduceLE, Int.reduceLT, Int.reduceEq, Int.reduceNe, Int.reduceNeg, Int.reduceAdd, Int.reduceSub, Int.reduceMul, Nat.reducePow, Nat.reduceDiv, Nat.reduceMod, Nat.reduceAdd, Nat.reduceSub, Nat.reduceMul, Nat.reduceLT, Nat.reduceLeDiff, Nat.reduceEqDiff, Nat.reduceBEq, reduceCtorEq, reduceIte]

end Go.Proofs.Ytghggnfomlibjaa
