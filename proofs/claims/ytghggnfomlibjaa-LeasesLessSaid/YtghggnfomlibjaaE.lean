/-
  Releases, holds and grants of the reference; equality of lists; digests drawn.
-/
import Derived.Test.YtghggnfomlibjaaD
set_option maxRecDepth 100000
set_option linter.unusedSimpArgs false
set_option linter.unusedVariables false
namespace Go.Proofs.Ytghggnfomlibjaa
open Go.Sy

def errV (l : Ls) (e : Int) : SV := .tup [l.sv, .int .i64 e]
def relP (l : Ls) (m : Int) : Ls × Int :=
  if ¬ (1 ≤ m ∧ m ≤ 4) then (⟨[], []⟩, 49) else if has (l.hs.map Hold.m) m = false then (⟨[], []⟩, 40) else (⟨l.ls, l.hs.take (lb (l.hs.map Hold.m) m) ++ l.hs.drop (lb (l.hs.map Hold.m) m + 1)⟩, 0)
theorem f16 (l : Ls) (m : Int) (hs : Sorted (l.hs.map Hold.m)) (hl : l.hs.length ≤ 1000000000) : call T 16 [l.sv, .int .i64 m] [] 0 = some ⟨errV (relP l m).1 (relP l m).2, [], []⟩ := by
  have h := f35 l m hs hl
  rw [call_code T_16]
  simp only [Ls.sv, lsSV, hsSV] at h
  simp only [Ls.sv, lsSV, hsSV, errV]
  by_cases h1 : 1 ≤ m ∧ m ≤ 4
  · cases hc : has (l.hs.map Hold.m) m with
    | false =>
      simp only [hc] at h
      simp only [r16_0, r16_1, r16_2, r16_3, r16_4, r16_5, r16_6, r16_7, F16, q16, go_sem, Int.reduceToNat, Int.reduceLE, Int.reduceLT, Int.reduceEq, Int.reduceNe, Int.reduceNeg, Int.reduceAdd, Int.reduceSub, Int.reduceMul, Nat.reducePow, Nat.reduceDiv, Nat.reduceMod, Nat.reduceAdd, Nat.reduceSub, Nat.reduceMul, Nat.reduceLT, Nat.reduceLeDiff, Nat.reduceEqDiff, Nat.reduceBEq, reduceCtorEq, reduceIte, h, f30, S_30, S_35, h1, relP, hc]
    | true =>
      simp only [hc] at h
      have hk : lb (l.hs.map Hold.m) m < l.hs.length := by
        unfold has at hc
        rw [decide_eq_true_eq, List.length_map] at hc
        exact hc.1
      have hk1 : lb (l.hs.map Hold.m) m ≤ l.hs.length := by omega
      have hk2 : lb (l.hs.map Hold.m) m + 1 ≤ l.hs.length := by omega
      have e3 := wsucc (lb (l.hs.map Hold.m) m) (by omega)
      have e5 : List.take l.hs.length (l.hs.map Hold.sv) = l.hs.map Hold.sv := List.take_of_length_le (by simp)
      have e4 : ((List.take (lb (l.hs.map Hold.m) m) (l.hs.map Hold.sv)).length + (List.drop (lb (l.hs.map Hold.m) m + 1) (l.hs.map Hold.sv)).length) * 24 ≤ 140737488355328 := by
        simp only [List.length_take, List.length_drop, List.length_map]; omega
      simp only [r16_0, r16_1, r16_2, r16_3, r16_4, r16_5, r16_6, r16_7, F16, q16, go_sem, Int.reduceToNat, Int.reduceLE, Int.reduceLT, Int.reduceEq, Int.reduceNe, Int.reduceNeg, Int.reduceAdd, Int.reduceSub, Int.reduceMul, Nat.reducePow, Nat.reduceDiv, Nat.reduceMod, Nat.reduceAdd, Nat.reduceSub, Nat.reduceMul, Nat.reduceLT, Nat.reduceLeDiff, Nat.reduceEqDiff, Nat.reduceBEq, reduceCtorEq, reduceIte, h, f30, S_30, S_35, h1, relP, hc, hk, hk1, hk2, e3, e5, e4, List.map_take, List.map_drop]
  · have h1' : decide (1 ≤ m ∧ m ≤ 4) = false := by simpa using h1
    simp only [r16_0, r16_1, r16_2, r16_3, r16_4, r16_5, r16_6, r16_7, F16, q16, go_sem, Int.reduceToNat, Int.reduceLE, Int.reduceLT, Int.reduceEq, Int.reduceNe, Int.reduceNeg, Int.reduceAdd, Int.reduceSub, Int.reduceMul, Nat.reducePow, Nat.reduceDiv, Nat.reduceMod, Nat.reduceAdd, Nat.reduceSub, Nat.reduceMul, Nat.reduceLT, Nat.reduceLeDiff, Nat.reduceEqDiff, Nat.reduceBEq, reduceCtorEq, reduceIte, h, f30, S_30, S_35, h1', h1, relP]
def relR (l : Ls) (m : Int) : Ls × Int :=
  if m < 1 ∨ 4 < m then (⟨[], []⟩, 49) else if (l.hs.map Hold.m).contains m = false then (⟨[], []⟩, 40) else (⟨l.ls, l.hs.filter fun x => decide (x.m ≠ m)⟩, 0)
theorem l17 (L : List Lease) (l : List Hold) (m : Int) (hl : l.length ≤ 1000000000) : ∀ (n i : Nat) (acc : List Hold), l.length - i = n → i ≤ l.length → acc.length ≤ i →
    run T (.loop r17_11) ⟨[(1, .int .i64 m), (2, .ptr 102 0), (4, .ptr 104 0), (6, .lst 3 (acc.map Hold.sv) (.id 106)), (7, .int .i64 i)], [(102, .rc [.lst 3 (L.map Lease.sv) .no, .lst 3 (l.map Hold.sv) .no]), (104, .rc [.lst 3 [] .clip, .lst 3 [] .clip])], [106]⟩ =
      some (.x 0, ⟨[(2, .ptr 102 0), (4, .ptr 104 0), (6, .lst 3 ((acc ++ (l.drop i).filter fun x => decide (x.m ≠ m)).map Hold.sv) (.id 106))], [(102, .rc [.lst 3 (L.map Lease.sv) .no, .lst 3 (l.map Hold.sv) .no]), (104, .rc [.lst 3 [] .clip, .lst 3 [] .clip])], [106]⟩) := by
  intro n
  induction n with
  | zero =>
    intro i acc h0 h1 ha
    have hi : i = l.length := by omega
    subst hi
    rw [run_loop]
    simp only [r17_0, r17_1, r17_2, r17_3, r17_4, r17_5, r17_6, r17_7, r17_8, r17_9, r17_10, r17_12, F17, q17_11, q17, go_sem, Int.reduceToNat, Int.reduceLE, Int.reduceLT, Int.reduceEq, Int.reduceNe, Int.reduceNeg, Int.reduceAdd, Int.reduceSub, Int.reduceMul, Nat.reducePow, Nat.reduceDiv, Nat.reduceMod, Nat.reduceAdd, Nat.reduceSub, Nat.reduceMul, Nat.reduceLT, Nat.reduceLeDiff, Nat.reduceEqDiff, Nat.reduceBEq, reduceCtorEq, reduceIte, List.drop_length, List.filter_nil]
  | succ n ih =>
    intro i acc h0 h1 ha
    have hi : i < l.length := by omega
    rw [run_loop, drop_cons l i hi]
    have e2 := getD_map Hold.sv l i hi
    have e3 := wsucc i (by omega)
    have e4 : (acc.length + 1) * 24 ≤ 140737488355328 := by omega
    simp only [r17_0, r17_1, r17_2, r17_3, r17_4, r17_5, r17_6, r17_7, r17_8, r17_9, r17_10, r17_12, F17, q17_11, q17, go_sem, Int.reduceToNat, Int.reduceLE, Int.reduceLT, Int.reduceEq, Int.reduceNe, Int.reduceNeg, Int.reduceAdd, Int.reduceSub, Int.reduceMul, Nat.reducePow, Nat.reduceDiv, Nat.reduceMod, Nat.reduceAdd, Nat.reduceSub, Nat.reduceMul, Nat.reduceLT, Nat.reduceLeDiff, Nat.reduceEqDiff, Nat.reduceBEq, reduceCtorEq, reduceIte, hi, e2, Hold.sv, e3, e4, List.filter_cons]
    by_cases hc : (l.getD i default).m = m
    · have h := ih (i + 1) acc (by omega) (by omega) (by omega)
      simp only [List.map_append] at h
      simp only [hc, go_sem, Int.reduceToNat, Int.reduceLE, Int.reduceLT, Int.reduceEq, Int.reduceNe, Int.reduceNeg, Int.reduceAdd, Int.reduceSub, Int.reduceMul, Nat.reducePow, Nat.reduceDiv, Nat.reduceMod, Nat.reduceAdd, Nat.reduceSub, Nat.reduceMul, Nat.reduceLT, Nat.reduceLeDiff, Nat.reduceEqDiff, Nat.reduceBEq, reduceCtorEq, reduceIte, r17_0, r17_1, r17_2, r17_3, r17_4, r17_5, r17_6, r17_7, r17_8, r17_9, r17_10, r17_12, F17, q17_11, q17, h, ne_eq]
    · have h := ih (i + 1) (acc ++ [l.getD i default]) (by omega) (by omega) (by simp; omega)
      simp only [List.map_append, List.map_cons, List.map_nil, Hold.sv, List.append_assoc, List.cons_append, List.nil_append] at h
      simp only [hc, go_sem, Int.reduceToNat, Int.reduceLE, Int.reduceLT, Int.reduceEq, Int.reduceNe, Int.reduceNeg, Int.reduceAdd, Int.reduceSub, Int.reduceMul, Nat.reducePow, Nat.reduceDiv, Nat.reduceMod, Nat.reduceAdd, Nat.reduceSub, Nat.reduceMul, Nat.reduceLT, Nat.reduceLeDiff, Nat.reduceEqDiff, Nat.reduceBEq, reduceCtorEq, reduceIte, r17_0, r17_1, r17_2, r17_3, r17_4, r17_5, r17_6, r17_7, r17_8, r17_9, r17_10, r17_12, F17, q17_11, q17, h, ne_eq, List.map_cons, Hold.sv]
theorem f17 (l : Ls) (m : Int) (hl : l.hs.length ≤ 1000000000) : call T 17 [l.sv, .int .i64 m] [] 0 = some ⟨errV (relR l m).1 (relR l m).2, [], []⟩ := by
  have h := f21 l m hl
  rw [call_code T_17]
  simp only [Ls.sv, lsSV, hsSV] at h
  simp only [Ls.sv, lsSV, hsSV, errV]
  by_cases h1 : m < 1 ∨ 4 < m
  · simp only [r17_0, r17_1, r17_2, r17_3, r17_4, r17_5, r17_6, r17_7, r17_8, r17_9, r17_10, r17_12, F17, q17_11, q17, go_sem, Int.reduceToNat, Int.reduceLE, Int.reduceLT, Int.reduceEq, Int.reduceNe, Int.reduceNeg, Int.reduceAdd, Int.reduceSub, Int.reduceMul, Nat.reducePow, Nat.reduceDiv, Nat.reduceMod, Nat.reduceAdd, Nat.reduceSub, Nat.reduceMul, Nat.reduceLT, Nat.reduceLeDiff, Nat.reduceEqDiff, Nat.reduceBEq, reduceCtorEq, reduceIte, h, S_21, relR, h1]
  · cases hc : (l.hs.map Hold.m).contains m with
    | false =>
      simp only [hc] at h
      simp only [r17_0, r17_1, r17_2, r17_3, r17_4, r17_5, r17_6, r17_7, r17_8, r17_9, r17_10, r17_12, F17, q17_11, q17, go_sem, Int.reduceToNat, Int.reduceLE, Int.reduceLT, Int.reduceEq, Int.reduceNe, Int.reduceNeg, Int.reduceAdd, Int.reduceSub, Int.reduceMul, Nat.reducePow, Nat.reduceDiv, Nat.reduceMod, Nat.reduceAdd, Nat.reduceSub, Nat.reduceMul, Nat.reduceLT, Nat.reduceLeDiff, Nat.reduceEqDiff, Nat.reduceBEq, reduceCtorEq, reduceIte, h, S_21, relR, h1, hc]
    | true =>
      simp only [hc] at h
      have h2 := l17 l.ls l.hs m hl _ 0 [] rfl (by omega) (by simp)
      simp only [Int.natCast_zero, List.drop_zero, List.map_nil, List.nil_append] at h2
      simp only [r17_0, r17_1, r17_2, r17_3, r17_4, r17_5, r17_6, r17_7, r17_8, r17_9, r17_10, r17_12, F17, q17_11, q17, go_sem, Int.reduceToNat, Int.reduceLE, Int.reduceLT, Int.reduceEq, Int.reduceNe, Int.reduceNeg, Int.reduceAdd, Int.reduceSub, Int.reduceMul, Nat.reducePow, Nat.reduceDiv, Nat.reduceMod, Nat.reduceAdd, Nat.reduceSub, Nat.reduceMul, Nat.reduceLT, Nat.reduceLeDiff, Nat.reduceEqDiff, Nat.reduceBEq, reduceCtorEq, reduceIte, h, S_21, relR, h1, hc, h2]
def holdR (l : Ls) (m r s : Int) : Ls :=
  if m < 1 ∨ 4 < m ∨ (l.hs.map Hold.m).contains m = true then l else ⟨l.ls.filter fun x => decide (x.m ≠ m), l.hs.take (lb (l.hs.map Hold.m) m) ++ ⟨m, r, s⟩ :: l.hs.drop (lb (l.hs.map Hold.m) m)⟩
theorem lb_le (ms : List Int) (m : Int) : lb ms m ≤ ms.length := by unfold lb; exact (List.takeWhile_sublist _).length_le
theorem lb_get (ms : List Int) (m : Int) {i : Nat} (h : i < lb ms m) : ms.getD i 0 < m := by
  unfold lb at h
  induction ms generalizing i with
  | nil => simp at h
  | cons r ms ih =>
    rw [List.takeWhile_cons] at h
    split at h
    · rename_i hr
      cases i with
      | zero => simpa using hr
      | succ i => rw [List.getD_cons_succ]; exact ih (by simpa using h)
    · simp at h
theorem lb_ge (ms : List Int) (m : Int) (h : lb ms m < ms.length) : ¬ ms.getD (lb ms m) 0 < m := by
  unfold lb at h ⊢
  induction ms with
  | nil => simp at h
  | cons r ms ih =>
    rw [List.takeWhile_cons] at h ⊢
    split
    · rename_i hr
      rw [if_pos hr] at h
      rw [List.length_cons, List.getD_cons_succ]
      exact ih (by simpa using h)
    · rename_i hr
      simpa using hr
theorem l19 (L : List Lease) (l : List Hold) (m r s : Int) (hl : l.length ≤ 1000000000) : ∀ (n i : Nat), lb (l.map Hold.m) m - i = n → i ≤ lb (l.map Hold.m) m →
    run T (.loop r19_6) ⟨[(1, .int .i64 m), (2, .int .i64 r), (3, .int .i64 s), (4, .ptr 104 0), (8, .ptr 108 0), (9, .int .i64 i)], [(104, .rc [.lst 3 (L.map Lease.sv) .no, .lst 3 (l.map Hold.sv) .no]), (108, .rc [.lst 3 [] .clip, .lst 3 [] .clip])], []⟩ =
      some (.x 0, ⟨[(1, .int .i64 m), (2, .int .i64 r), (3, .int .i64 s), (4, .ptr 104 0), (8, .ptr 108 0), (9, .int .i64 (lb (l.map Hold.m) m))], [(104, .rc [.lst 3 (L.map Lease.sv) .no, .lst 3 (l.map Hold.sv) .no]), (108, .rc [.lst 3 [] .clip, .lst 3 [] .clip])], []⟩) := by
  intro n
  have hlb := lb_le (l.map Hold.m) m
  rw [List.length_map] at hlb
  induction n with
  | zero =>
    intro i h0 h1
    have hi : i = lb (l.map Hold.m) m := by omega
    rw [run_loop]
    by_cases hk : i < l.length
    · have hge := lb_ge (l.map Hold.m) m (by rw [List.length_map]; omega)
      rw [← hi, hs_getD l hk] at hge
      have e2 := getD_map Hold.sv l i hk
      rw [← hi]
      simp only [r19_0, r19_1, r19_2, r19_3, r19_4, r19_5, r19_7, r19_8, F19, q19_6, q19, go_sem, Int.reduceToNat, Int.reduceLE, Int.reduceLT, Int.reduceEq, Int.reduceNe, Int.reduceNeg, Int.reduceAdd, Int.reduceSub, Int.reduceMul, Nat.reducePow, Nat.reduceDiv, Nat.reduceMod, Nat.reduceAdd, Nat.reduceSub, Nat.reduceMul, Nat.reduceLT, Nat.reduceLeDiff, Nat.reduceEqDiff, Nat.reduceBEq, reduceCtorEq, reduceIte, hk, e2, Hold.sv, hge]
    · rw [← hi]
      simp only [r19_0, r19_1, r19_2, r19_3, r19_4, r19_5, r19_7, r19_8, F19, q19_6, q19, go_sem, Int.reduceToNat, Int.reduceLE, Int.reduceLT, Int.reduceEq, Int.reduceNe, Int.reduceNeg, Int.reduceAdd, Int.reduceSub, Int.reduceMul, Nat.reducePow, Nat.reduceDiv, Nat.reduceMod, Nat.reduceAdd, Nat.reduceSub, Nat.reduceMul, Nat.reduceLT, Nat.reduceLeDiff, Nat.reduceEqDiff, Nat.reduceBEq, reduceCtorEq, reduceIte, hk]
  | succ n ih =>
    intro i h0 h1
    have hi : i < lb (l.map Hold.m) m := by omega
    have hk : i < l.length := by omega
    have hlt := lb_get (l.map Hold.m) m hi
    rw [hs_getD l hk] at hlt
    have e2 := getD_map Hold.sv l i hk
    have e3 := wsucc i (by omega)
    rw [run_loop]
    simp only [r19_0, r19_1, r19_2, r19_3, r19_4, r19_5, r19_7, r19_8, F19, q19_6, q19, go_sem, Int.reduceToNat, Int.reduceLE, Int.reduceLT, Int.reduceEq, Int.reduceNe, Int.reduceNeg, Int.reduceAdd, Int.reduceSub, Int.reduceMul, Nat.reducePow, Nat.reduceDiv, Nat.reduceMod, Nat.reduceAdd, Nat.reduceSub, Nat.reduceMul, Nat.reduceLT, Nat.reduceLeDiff, Nat.reduceEqDiff, Nat.reduceBEq, reduceCtorEq, reduceIte, hk, e2, Hold.sv, hlt, e3, ih (i + 1) (by omega) (by omega)]
theorem f19 (l : Ls) (m r s : Int) (hl : l.hs.length ≤ 1000000000) (hl2 : l.ls.length ≤ 1000000000) : call T 19 [l.sv, .int .i64 m, .int .i64 r, .int .i64 s] [] 0 = some ⟨(holdR l m r s).sv, [], []⟩ := by
  have h := f21 l m hl
  rw [call_code T_19]
  simp only [Ls.sv, lsSV, hsSV] at h
  simp only [Ls.sv, lsSV, hsSV]
  by_cases h1 : m < 1 ∨ 4 < m
  · have h2 : holdR l m r s = l := by unfold holdR; rw [if_pos]; omega
    rw [h2]
    simp only [r19_0, r19_1, r19_2, r19_3, r19_4, r19_5, r19_7, r19_8, F19, q19_6, q19, go_sem, Int.reduceToNat, Int.reduceLE, Int.reduceLT, Int.reduceEq, Int.reduceNe, Int.reduceNeg, Int.reduceAdd, Int.reduceSub, Int.reduceMul, Nat.reducePow, Nat.reduceDiv, Nat.reduceMod, Nat.reduceAdd, Nat.reduceSub, Nat.reduceMul, Nat.reduceLT, Nat.reduceLeDiff, Nat.reduceEqDiff, Nat.reduceBEq, reduceCtorEq, reduceIte, h, S_21, h1]
  · cases hc : (l.hs.map Hold.m).contains m with
    | true =>
      have h2 : holdR l m r s = l := by unfold holdR; rw [if_pos (.inr (.inr hc))]
      rw [h2]
      simp only [hc] at h
      simp only [r19_0, r19_1, r19_2, r19_3, r19_4, r19_5, r19_7, r19_8, F19, q19_6, q19, go_sem, Int.reduceToNat, Int.reduceLE, Int.reduceLT, Int.reduceEq, Int.reduceNe, Int.reduceNeg, Int.reduceAdd, Int.reduceSub, Int.reduceMul, Nat.reducePow, Nat.reduceDiv, Nat.reduceMod, Nat.reduceAdd, Nat.reduceSub, Nat.reduceMul, Nat.reduceLT, Nat.reduceLeDiff, Nat.reduceEqDiff, Nat.reduceBEq, reduceCtorEq, reduceIte, h, S_21, h1]
    | false =>
      have h2 : holdR l m r s = ⟨l.ls.filter fun x => decide (x.m ≠ m), l.hs.take (lb (l.hs.map Hold.m) m) ++ ⟨m, r, s⟩ :: l.hs.drop (lb (l.hs.map Hold.m) m)⟩ := by
        unfold holdR; rw [if_neg]; intro hh; rcases hh with hh | hh | hh; exact h1 (.inl hh); exact h1 (.inr hh); rw [hc] at hh; exact Bool.noConfusion hh
      rw [h2]
      simp only [hc] at h
      have h3 := l19 l.ls l.hs m r s hl _ 0 rfl (by omega)
      simp only [Int.natCast_zero] at h3
      have hlb := lb_le (l.hs.map Hold.m) m
      rw [List.length_map] at hlb
      have h4 := f39 l.ls m hl2
      have e5 : (List.take (lb (l.hs.map Hold.m) m) (l.hs.map Hold.sv)).length * 24 ≤ 140737488355328 := by
        simp only [List.length_take, List.length_map]; omega
      have e6 : ((List.take (lb (l.hs.map Hold.m) m) (l.hs.map Hold.sv)).length + 1) * 24 ≤ 140737488355328 := by
        simp only [List.length_take, List.length_map]; omega
      have e7 : ((List.take (lb (l.hs.map Hold.m) m) (l.hs.map Hold.sv)).length + 1 + (List.drop (lb (l.hs.map Hold.m) m) (l.hs.map Hold.sv)).length) * 24 ≤ 140737488355328 := by
        simp only [List.length_take, List.length_drop, List.length_map]; omega
      have e8 : List.take l.hs.length (l.hs.map Hold.sv) = l.hs.map Hold.sv := List.take_of_length_le (by simp)
      simp only [r19_0, r19_1, r19_2, r19_3, r19_4, r19_5, r19_7, r19_8, F19, q19_6, q19, go_sem, Int.reduceToNat, Int.reduceLE, Int.reduceLT, Int.reduceEq, Int.reduceNe, Int.reduceNeg, Int.reduceAdd, Int.reduceSub, Int.reduceMul, Nat.reducePow, Nat.reduceDiv, Nat.reduceMod, Nat.reduceAdd, Nat.reduceSub, Nat.reduceMul, Nat.reduceLT, Nat.reduceLeDiff, Nat.reduceEqDiff, Nat.reduceBEq, reduceCtorEq, reduceIte, h, S_21, h1, h3, hlb, h4, S_39, e5, e6, e7, e8, List.map_take, List.map_drop, Hold.sv]
end Go.Proofs.Ytghggnfomlibjaa
