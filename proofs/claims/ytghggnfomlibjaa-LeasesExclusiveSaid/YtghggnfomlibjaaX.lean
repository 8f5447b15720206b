/-
  The law of exclusion.
-/
import Derived.Test.YtghggnfomlibjaaL
set_option maxRecDepth 100000
set_option linter.unusedSimpArgs false
set_option linter.unusedVariables false
namespace Go.Proofs.Ytghggnfomlibjaa
open Go.Sy

def fB (b : Bool) : List SV := [.bool b]
theorem getD_fB (F : List Bool) (i : Nat) (h : i < F.length) : (F.map fB).getD i [] = [.bool (F.getD i false)] := getD_map fB F i h
theorem set_fB (F : List Bool) (i : Nat) (b : Bool) : (F.map fB).set i [.bool b] = (F.set i b).map fB := by
  rw [List.map_set]; rfl
/-- The lists, and who was granted a lease since his last hold. -/
structure Fit (l : Ls) (F : List Bool) : Prop where
  wf : WF l
  five : F.length = 5
  free : ∀ x ∈ l.ls, F.getD x.m.toNat false = true
  apart : ∀ x ∈ l.ls, ∀ h ∈ l.hs, x.m ≠ h.m
def st5 (t : Tok) (l : Ls) (F : List Bool) (n : Int) (X : List (Nat × SObj)) (tm : List (Nat × SV)) : CSt :=
  ⟨[(7, .ptr 23100 0), (8, .ptr 108 0), (9, .ptr 109 0), (10, .int .i64 n)] ++ tm, (108, .rc [.lst 3 (l.ls.map Lease.sv) t, .lst 3 (l.hs.map Hold.sv) t]) :: (109, .arr 1 (F.map fB)) :: X, []⟩
theorem adm_find {l : Ls} {F : List Bool} (h : Fit l F) {k : Nat} {n : Int} (ha : admR l.ls k n = true) : F.getD k false = true ∧ (l.hs.map Hold.m).contains (k : Int) = false := by
  unfold admR at ha
  rw [Bool.and_eq_true] at ha
  cases hf : findL l.ls k with
  | none => rw [hf] at ha; simp at ha
  | some x =>
    have h1 := List.find?_some hf
    have h2 := List.mem_of_find?_eq_some hf
    simp only [decide_eq_true_eq] at h1
    have h3 := h.free x h2
    rw [h1] at h3
    refine ⟨by simpa using h3, ?_⟩
    rw [Bool.eq_false_iff, Ne, List.contains_iff_mem]
    intro hm
    obtain ⟨y, hy, hym⟩ := List.mem_map.1 hm
    exact h.apart x h2 y hy (by rw [h1, hym])
theorem l5a (t : Tok) (ht : t = .no ∨ t = .clip) (l : Ls) (F : List Bool) (hF : Fit l F) (n : Int) (X : List (Nat × SObj)) : ∀ (f k : Nat), 5 - k = f → k ≤ 5 →
    run T (.loop r5_29) (st5 t l F n X [(16, .int .i64 k)]) = some (.x 3, st5 t l F n X []) := by
  have hl1 := hF.wf.len
  have hl2 := hF.wf.len2
  intro f
  induction f with
  | zero =>
    intro k h0 h1
    have e : k = 5 := by omega
    subst e
    have c5 : ((5 : Nat) : Int) = 5 := rfl
    rw [run_loop]
    simp only [r5_0, r5_1, r5_2, r5_3, r5_4, r5_5, r5_6, r5_7, r5_8, r5_9, r5_10, r5_11, r5_12, r5_13, r5_14, r5_15, r5_16, r5_17, r5_18, r5_19, r5_20, r5_21, r5_22, r5_23, r5_24, r5_25, r5_26, r5_27, r5_28, r5_30, r5_31, r5_32, r5_33, r5_34, r5_36, r5_37, r5_38, r5_39, r5_40, r5_43, F5, q5_29, q5_35, q5_41, q5_42, q5, go_sem, Int.reduceToNat, Int.reduceLE, Int.reduceLT, Int.reduceEq, Int.reduceNe, Int.reduceNeg, Int.reduceAdd, Int.reduceSub, Int.reduceMul, Nat.reducePow, Nat.reduceDiv, Nat.reduceMod, Nat.reduceAdd, Nat.reduceSub, Nat.reduceMul, Nat.reduceLT, Nat.reduceLeDiff, Nat.reduceEqDiff, Nat.reduceBEq, reduceCtorEq, reduceIte, st5, c5]
  | succ f ih =>
    intro k h0 h1
    have e1 : (k : Int) ≤ 4 := by omega
    have e2 : k < 5 := by omega
    have e3 := wsucc k (by omega)
    have h := ih (k + 1) (by omega) (by omega)
    have g1 := f20 l k hF.wf.s2 (by omega)
    have g2 := f24 l k n hF.wf.s1 (by omega)
    rw [adm_eq _ hF.wf.s1] at g2
    rw [has_contains _ _ hF.wf.s2] at g1
    have e4 := getD_fB F k (by rw [hF.five]; exact e2)
    have e5 : k < F.length := by rw [hF.five]; exact e2
    simp only [lsv] at g1 g2
    simp only [st5, List.cons_append, List.nil_append] at h ⊢
    rw [run_loop]
    cases ha : admR l.ls k n with
    | true =>
      obtain ⟨a1, a2⟩ := adm_find hF ha
      rw [ha] at g2
      rw [a2] at g1
      rw [a1] at e4
      rcases ht with rfl | rfl <;> simp only [r5_0, r5_1, r5_2, r5_3, r5_4, r5_5, r5_6, r5_7, r5_8, r5_9, r5_10, r5_11, r5_12, r5_13, r5_14, r5_15, r5_16, r5_17, r5_18, r5_19, r5_20, r5_21, r5_22, r5_23, r5_24, r5_25, r5_26, r5_27, r5_28, r5_30, r5_31, r5_32, r5_33, r5_34, r5_36, r5_37, r5_38, r5_39, r5_40, r5_43, F5, q5_29, q5_35, q5_41, q5_42, q5, go_sem, Int.reduceToNat, Int.reduceLE, Int.reduceLT, Int.reduceEq, Int.reduceNe, Int.reduceNeg, Int.reduceAdd, Int.reduceSub, Int.reduceMul, Nat.reducePow, Nat.reduceDiv, Nat.reduceMod, Nat.reduceAdd, Nat.reduceSub, Nat.reduceMul, Nat.reduceLT, Nat.reduceLeDiff, Nat.reduceEqDiff, Nat.reduceBEq, reduceCtorEq, reduceIte, e1, e2, e3, e4, e5, g1, g2, S_20, S_24, h, hF.five, List.length_map]
    | false =>
      rw [ha] at g2
      cases hc : (l.hs.map Hold.m).contains (k : Int) with
      | true =>
        rw [hc] at g1
        rcases ht with rfl | rfl <;> simp only [r5_0, r5_1, r5_2, r5_3, r5_4, r5_5, r5_6, r5_7, r5_8, r5_9, r5_10, r5_11, r5_12, r5_13, r5_14, r5_15, r5_16, r5_17, r5_18, r5_19, r5_20, r5_21, r5_22, r5_23, r5_24, r5_25, r5_26, r5_27, r5_28, r5_30, r5_31, r5_32, r5_33, r5_34, r5_36, r5_37, r5_38, r5_39, r5_40, r5_43, F5, q5_29, q5_35, q5_41, q5_42, q5, go_sem, Int.reduceToNat, Int.reduceLE, Int.reduceLT, Int.reduceEq, Int.reduceNe, Int.reduceNeg, Int.reduceAdd, Int.reduceSub, Int.reduceMul, Nat.reducePow, Nat.reduceDiv, Nat.reduceMod, Nat.reduceAdd, Nat.reduceSub, Nat.reduceMul, Nat.reduceLT, Nat.reduceLeDiff, Nat.reduceEqDiff, Nat.reduceBEq, reduceCtorEq, reduceIte, e1, e2, e3, e4, e5, g1, g2, S_20, S_24, h, hF.five, List.length_map]
      | false =>
        rw [hc] at g1
        rcases ht with rfl | rfl <;> simp only [r5_0, r5_1, r5_2, r5_3, r5_4, r5_5, r5_6, r5_7, r5_8, r5_9, r5_10, r5_11, r5_12, r5_13, r5_14, r5_15, r5_16, r5_17, r5_18, r5_19, r5_20, r5_21, r5_22, r5_23, r5_24, r5_25, r5_26, r5_27, r5_28, r5_30, r5_31, r5_32, r5_33, r5_34, r5_36, r5_37, r5_38, r5_39, r5_40, r5_43, F5, q5_29, q5_35, q5_41, q5_42, q5, go_sem, Int.reduceToNat, Int.reduceLE, Int.reduceLT, Int.reduceEq, Int.reduceNe, Int.reduceNeg, Int.reduceAdd, Int.reduceSub, Int.reduceMul, Nat.reducePow, Nat.reduceDiv, Nat.reduceMod, Nat.reduceAdd, Nat.reduceSub, Nat.reduceMul, Nat.reduceLT, Nat.reduceLeDiff, Nat.reduceEqDiff, Nat.reduceBEq, reduceCtorEq, reduceIte, e1, e2, e3, e4, e5, g1, g2, S_20, S_24, h, hF.five, List.length_map]
theorem l5b (t : Tok) (ht : t = .no ∨ t = .clip) (l : Ls) (F : List Bool) (hF : Fit l F) (n : Int) (X : List (Nat × SObj)) : ∀ (f k : Nat), l.ls.length - k = f → 1 ≤ k →
    run T (.loop r5_35) (st5 t l F n X [(17, .int .i64 k)]) = some (.x 5, st5 t l F n X []) := by
  have hl1 := hF.wf.len
  intro f
  induction f with
  | zero =>
    intro k h0 h1
    have e : ¬ k < l.ls.length := by omega
    rw [run_loop]
    rcases ht with rfl | rfl <;> simp only [r5_0, r5_1, r5_2, r5_3, r5_4, r5_5, r5_6, r5_7, r5_8, r5_9, r5_10, r5_11, r5_12, r5_13, r5_14, r5_15, r5_16, r5_17, r5_18, r5_19, r5_20, r5_21, r5_22, r5_23, r5_24, r5_25, r5_26, r5_27, r5_28, r5_30, r5_31, r5_32, r5_33, r5_34, r5_36, r5_37, r5_38, r5_39, r5_40, r5_43, F5, q5_29, q5_35, q5_41, q5_42, q5, go_sem, Int.reduceToNat, Int.reduceLE, Int.reduceLT, Int.reduceEq, Int.reduceNe, Int.reduceNeg, Int.reduceAdd, Int.reduceSub, Int.reduceMul, Nat.reducePow, Nat.reduceDiv, Nat.reduceMod, Nat.reduceAdd, Nat.reduceSub, Nat.reduceMul, Nat.reduceLT, Nat.reduceLeDiff, Nat.reduceEqDiff, Nat.reduceBEq, reduceCtorEq, reduceIte, st5, e, List.length_map]
  | succ f ih =>
    intro k h0 h1
    have e : k < l.ls.length := by omega
    have e' : k - 1 < l.ls.length := by omega
    have e3 := wsucc k (by omega)
    have e4 : IntKind.i64.wrap ((k : Int) - 1) = ((k - 1 : Nat) : Int) := by rw [w64 (by omega) (by omega)]; omega
    have h := ih (k + 1) (by omega) (by omega)
    have e5 := getD_map Lease.sv l.ls k e
    have e6 := getD_map Lease.sv l.ls (k - 1) e'
    have e7 := sorted_lt hF.wf.s1 (i := k - 1) (j := k) (by omega) (by simpa using e)
    rw [ms_getD _ e, ms_getD _ e'] at e7
    have e8 : ¬ (l.ls.getD k default).m ≤ (l.ls.getD (k - 1) default).m := by omega
    simp only [st5, List.cons_append, List.nil_append] at h ⊢
    rw [run_loop]
    rcases ht with rfl | rfl <;> simp only [r5_0, r5_1, r5_2, r5_3, r5_4, r5_5, r5_6, r5_7, r5_8, r5_9, r5_10, r5_11, r5_12, r5_13, r5_14, r5_15, r5_16, r5_17, r5_18, r5_19, r5_20, r5_21, r5_22, r5_23, r5_24, r5_25, r5_26, r5_27, r5_28, r5_30, r5_31, r5_32, r5_33, r5_34, r5_36, r5_37, r5_38, r5_39, r5_40, r5_43, F5, q5_29, q5_35, q5_41, q5_42, q5, go_sem, Int.reduceToNat, Int.reduceLE, Int.reduceLT, Int.reduceEq, Int.reduceNe, Int.reduceNeg, Int.reduceAdd, Int.reduceSub, Int.reduceMul, Nat.reducePow, Nat.reduceDiv, Nat.reduceMod, Nat.reduceAdd, Nat.reduceSub, Nat.reduceMul, Nat.reduceLT, Nat.reduceLeDiff, Nat.reduceEqDiff, Nat.reduceBEq, reduceCtorEq, reduceIte, e, e', e3, e4, e5, e6, e8, h, List.length_map, Lease.sv]
theorem l5c (t : Tok) (ht : t = .no ∨ t = .clip) (l : Ls) (F : List Bool) (hF : Fit l F) (n : Int) (X : List (Nat × SObj)) : ∀ (f k : Nat), l.hs.length - k = f → 1 ≤ k →
    run T (.loop r5_41) (st5 t l F n X [(18, .int .i64 k)]) = some (.x 7, st5 t l F n X []) := by
  have hl1 := hF.wf.len2
  intro f
  induction f with
  | zero =>
    intro k h0 h1
    have e : ¬ k < l.hs.length := by omega
    rw [run_loop]
    rcases ht with rfl | rfl <;> simp only [r5_0, r5_1, r5_2, r5_3, r5_4, r5_5, r5_6, r5_7, r5_8, r5_9, r5_10, r5_11, r5_12, r5_13, r5_14, r5_15, r5_16, r5_17, r5_18, r5_19, r5_20, r5_21, r5_22, r5_23, r5_24, r5_25, r5_26, r5_27, r5_28, r5_30, r5_31, r5_32, r5_33, r5_34, r5_36, r5_37, r5_38, r5_39, r5_40, r5_43, F5, q5_29, q5_35, q5_41, q5_42, q5, go_sem, Int.reduceToNat, Int.reduceLE, Int.reduceLT, Int.reduceEq, Int.reduceNe, Int.reduceNeg, Int.reduceAdd, Int.reduceSub, Int.reduceMul, Nat.reducePow, Nat.reduceDiv, Nat.reduceMod, Nat.reduceAdd, Nat.reduceSub, Nat.reduceMul, Nat.reduceLT, Nat.reduceLeDiff, Nat.reduceEqDiff, Nat.reduceBEq, reduceCtorEq, reduceIte, st5, e, List.length_map]
  | succ f ih =>
    intro k h0 h1
    have e : k < l.hs.length := by omega
    have e' : k - 1 < l.hs.length := by omega
    have e3 := wsucc k (by omega)
    have e4 : IntKind.i64.wrap ((k : Int) - 1) = ((k - 1 : Nat) : Int) := by rw [w64 (by omega) (by omega)]; omega
    have h := ih (k + 1) (by omega) (by omega)
    have e5 := getD_map Hold.sv l.hs k e
    have e6 := getD_map Hold.sv l.hs (k - 1) e'
    have e7 := sorted_lt hF.wf.s2 (i := k - 1) (j := k) (by omega) (by simpa using e)
    rw [hs_getD _ e, hs_getD _ e'] at e7
    have e8 : ¬ (l.hs.getD k default).m ≤ (l.hs.getD (k - 1) default).m := by omega
    simp only [st5, List.cons_append, List.nil_append] at h ⊢
    rw [run_loop]
    rcases ht with rfl | rfl <;> simp only [r5_0, r5_1, r5_2, r5_3, r5_4, r5_5, r5_6, r5_7, r5_8, r5_9, r5_10, r5_11, r5_12, r5_13, r5_14, r5_15, r5_16, r5_17, r5_18, r5_19, r5_20, r5_21, r5_22, r5_23, r5_24, r5_25, r5_26, r5_27, r5_28, r5_30, r5_31, r5_32, r5_33, r5_34, r5_36, r5_37, r5_38, r5_39, r5_40, r5_43, F5, q5_29, q5_35, q5_41, q5_42, q5, go_sem, Int.reduceToNat, Int.reduceLE, Int.reduceLT, Int.reduceEq, Int.reduceNe, Int.reduceNeg, Int.reduceAdd, Int.reduceSub, Int.reduceMul, Nat.reducePow, Nat.reduceDiv, Nat.reduceMod, Nat.reduceAdd, Nat.reduceSub, Nat.reduceMul, Nat.reduceLT, Nat.reduceLeDiff, Nat.reduceEqDiff, Nat.reduceBEq, reduceCtorEq, reduceIte, e, e', e3, e4, e5, e6, e8, h, List.length_map, Hold.sv]
end Go.Proofs.Ytghggnfomlibjaa
