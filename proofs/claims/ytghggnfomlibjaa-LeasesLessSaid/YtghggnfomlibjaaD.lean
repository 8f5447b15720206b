/-
  Sweeps; who is admitted; releases.
-/
import Derived.Test.YtghggnfomlibjaaC
set_option maxRecDepth 100000
set_option linter.unusedSimpArgs false
set_option linter.unusedVariables false
namespace Go.Proofs.Ytghggnfomlibjaa
open Go.Sy

def okL (l : List Lease) : Prop := l.length ≤ 1000000 ∧ ∀ x ∈ l, okG x.g
theorem okL.get {l : List Lease} (h : okL l) {i : Nat} (hi : i < l.length) : okG (l.getD i default).g := by
  rw [List.getD_eq_getElem?_getD, List.getElem?_eq_getElem hi]
  exact h.2 _ (List.getElem_mem hi)
def keepP (now : Int) (fs : List (List UInt8)) (x : Lease) : Bool := decide (now < x.u) && !(x.g.any fun y => !fs.any fun z => decide (z = y))
theorem l26 (l : List Lease) (H : List Hold) (now : Int) (fs : List (List UInt8)) (hl : okL l) (hf : fs.length ≤ 1000000000) : ∀ (n i : Nat) (acc : List Lease), l.length - i = n → i ≤ l.length → acc.length ≤ i →
    run T (.loop r26_9) ⟨[(1, .int .i64 now), (3, .ptr 103 0), (5, .ptr 105 0), (6, .ptr 106 0), (7, .lst 3 (acc.map Lease.sv) (.id 107)), (12, .lst 3 (l.map Lease.sv) .no), (13, .int .i64 l.length), (14, .int .i64 i)],
        [(103, .rc [.lst 3 (l.map Lease.sv) .no, .lst 3 (H.map Hold.sv) .no]), (105, .rc [.lst 1 (fs.map bytS) .no]), (106, .rc [.lst 3 [] .clip, .lst 3 [] .clip])], [107]⟩ =
      some (.x 0, ⟨[(3, .ptr 103 0), (6, .ptr 106 0), (7, .lst 3 ((acc ++ (l.drop i).filter (keepP now fs)).map Lease.sv) (.id 107))],
        [(103, .rc [.lst 3 (l.map Lease.sv) .no, .lst 3 (H.map Hold.sv) .no]), (105, .rc [.lst 1 (fs.map bytS) .no]), (106, .rc [.lst 3 [] .clip, .lst 3 [] .clip])], [107]⟩) := by
  intro n
  induction n with
  | zero =>
    intro i acc h0 h1 ha
    have hi : i = l.length := by omega
    subst hi
    rw [run_loop]
    simp only [r26_0, r26_1, r26_2, r26_3, r26_4, r26_5, r26_6, r26_7, r26_8, r26_10, r26_11, F26, q26_9, q26, go_sem, Int.reduceToNat, Int.reduceLE, Int.reduceLT, Int.reduceEq, Int.reduceNe, Int.reduceNeg, Int.reduceAdd, Int.reduceSub, Int.reduceMul, Nat.reducePow, Nat.reduceDiv, Nat.reduceMod, Nat.reduceAdd, Nat.reduceSub, Nat.reduceMul, Nat.reduceLT, Nat.reduceLeDiff, Nat.reduceEqDiff, Nat.reduceBEq, reduceCtorEq, reduceIte, List.drop_length, List.filter_nil]
  | succ n ih =>
    intro i acc h0 h1 ha
    have hi : i < l.length := by omega
    have hl1 := hl.1
    rw [run_loop, drop_cons l i hi]
    have e2 := getD_map Lease.sv l i hi
    have e3 := wsucc i (by omega)
    have e4 : (acc.length + 1) * 40 ≤ 140737488355328 := by omega
    have hg := hl.get hi
    have hq := f40b fs hf (l.getD i default).g hg.1
    simp only [r26_0, r26_1, r26_2, r26_3, r26_4, r26_5, r26_6, r26_7, r26_8, r26_10, r26_11, F26, q26_9, q26, go_sem, Int.reduceToNat, Int.reduceLE, Int.reduceLT, Int.reduceEq, Int.reduceNe, Int.reduceNeg, Int.reduceAdd, Int.reduceSub, Int.reduceMul, Nat.reducePow, Nat.reduceDiv, Nat.reduceMod, Nat.reduceAdd, Nat.reduceSub, Nat.reduceMul, Nat.reduceLT, Nat.reduceLeDiff, Nat.reduceEqDiff, Nat.reduceBEq, reduceCtorEq, reduceIte, hi, e2, Lease.sv, gsSV, e3, hq, S_40, List.filter_cons]
    have h1' := ih (i + 1) acc (by omega) (by omega) (by omega)
    have h2' := ih (i + 1) (acc ++ [l.getD i default]) (by omega) (by omega) (by simp; omega)
    simp only [List.map_append, List.map_cons, List.map_nil, Lease.sv, gsSV, List.append_assoc, List.cons_append, List.nil_append] at h1' h2'
    by_cases hc : now < (l.getD i default).u
    · by_cases hd : (l.getD i default).g.any (fun y => !fs.any fun z => decide (z = y)) = true
      · have hk : keepP now fs (l.getD i default) = false := by simp only [keepP, hc, hd, decide_true, Bool.not_true, Bool.and_false]
        simp only [hc, hd, hk, go_sem, Int.reduceToNat, Int.reduceLE, Int.reduceLT, Int.reduceEq, Int.reduceNe, Int.reduceNeg, Int.reduceAdd, Int.reduceSub, Int.reduceMul, Nat.reducePow, Nat.reduceDiv, Nat.reduceMod, Nat.reduceAdd, Nat.reduceSub, Nat.reduceMul, Nat.reduceLT, Nat.reduceLeDiff, Nat.reduceEqDiff, Nat.reduceBEq, reduceCtorEq, reduceIte, r26_0, r26_1, r26_2, r26_3, r26_4, r26_5, r26_6, r26_7, r26_8, r26_10, r26_11, F26, q26_9, q26, h1']
      · have hd' : (l.getD i default).g.any (fun y => !fs.any fun z => decide (z = y)) = false := (Bool.not_eq_true _).mp hd
        have hk : keepP now fs (l.getD i default) = true := by simp only [keepP, hc, hd', decide_true, Bool.not_false, Bool.and_true]
        simp only [hc, hd', hk, e4, go_sem, Int.reduceToNat, Int.reduceLE, Int.reduceLT, Int.reduceEq, Int.reduceNe, Int.reduceNeg, Int.reduceAdd, Int.reduceSub, Int.reduceMul, Nat.reducePow, Nat.reduceDiv, Nat.reduceMod, Nat.reduceAdd, Nat.reduceSub, Nat.reduceMul, Nat.reduceLT, Nat.reduceLeDiff, Nat.reduceEqDiff, Nat.reduceBEq, reduceCtorEq, reduceIte, r26_0, r26_1, r26_2, r26_3, r26_4, r26_5, r26_6, r26_7, r26_8, r26_10, r26_11, F26, q26_9, q26, h2', Lease.sv, gsSV]
    · have hk : keepP now fs (l.getD i default) = false := by simp only [keepP, hc, decide_false, Bool.false_and]
      simp only [hc, hk, go_sem, Int.reduceToNat, Int.reduceLE, Int.reduceLT, Int.reduceEq, Int.reduceNe, Int.reduceNeg, Int.reduceAdd, Int.reduceSub, Int.reduceMul, Nat.reducePow, Nat.reduceDiv, Nat.reduceMod, Nat.reduceAdd, Nat.reduceSub, Nat.reduceMul, Nat.reduceLT, Nat.reduceLeDiff, Nat.reduceEqDiff, Nat.reduceBEq, reduceCtorEq, reduceIte, r26_0, r26_1, r26_2, r26_3, r26_4, r26_5, r26_6, r26_7, r26_8, r26_10, r26_11, F26, q26_9, q26, h1']
theorem f26 (l : Ls) (now : Int) (fs : List (List UInt8)) (hl : okL l.ls) (hf : fs.length ≤ 1000000000) : call T 26 [l.sv, .int .i64 now, .lst 1 (fs.map bytS) .no] [] 0 = some ⟨(Ls.mk (l.ls.filter (keepP now fs)) l.hs).sv, [], []⟩ := by
  have h := l26 l.ls l.hs now fs hl hf _ 0 [] rfl (by omega) (by simp)
  rw [call_code T_26]
  simp only [Int.natCast_zero, List.drop_zero, List.map_nil, List.nil_append] at h
  simp only [r26_0, r26_1, r26_2, r26_3, r26_4, r26_5, r26_6, r26_7, r26_8, r26_10, r26_11, F26, q26_9, q26, go_sem, Int.reduceToNat, Int.reduceLE, Int.reduceLT, Int.reduceEq, Int.reduceNe, Int.reduceNeg, Int.reduceAdd, Int.reduceSub, Int.reduceMul, Nat.reducePow, Nat.reduceDiv, Nat.reduceMod, Nat.reduceAdd, Nat.reduceSub, Nat.reduceMul, Nat.reduceLT, Nat.reduceLeDiff, Nat.reduceEqDiff, Nat.reduceBEq, reduceCtorEq, reduceIte, Ls.sv, lsSV, hsSV, h]
def subsetB (a b : List (List UInt8)) : Bool := a.all fun x => b.any fun y => decide (x = y)
theorem l44b (a b : List (List UInt8)) (i : Nat) (hi : i < a.length) (ha : okG a) (hb : okG b) : ∀ (n k : Nat) (t : Bool), b.length - k = n → k ≤ b.length →
    run T (.loop r44_8) ⟨[(0, .lst 1 (a.map bytS) .no), (1, .lst 1 (b.map bytS) .no), (5, .int .i64 i), (6, .bool t), (7, .int .i64 k)], [], []⟩ =
      some (.x 2, ⟨[(0, .lst 1 (a.map bytS) .no), (1, .lst 1 (b.map bytS) .no), (5, .int .i64 i), (6, .bool (t || (b.drop k).any fun y => decide (a.getD i [] = y)))], [], []⟩) := by
  intro n
  induction n with
  | zero =>
    intro k t h0 h1
    have hk : k = b.length := by omega
    subst hk
    rw [run_loop]
    simp only [r44_0, r44_1, r44_2, r44_3, r44_4, r44_5, r44_6, r44_7, r44_9, r44_10, r44_11, r44_13, F44, q44_8, q44_12, q44, go_sem, Int.reduceToNat, Int.reduceLE, Int.reduceLT, Int.reduceEq, Int.reduceNe, Int.reduceNeg, Int.reduceAdd, Int.reduceSub, Int.reduceMul, Nat.reducePow, Nat.reduceDiv, Nat.reduceMod, Nat.reduceAdd, Nat.reduceSub, Nat.reduceMul, Nat.reduceLT, Nat.reduceLeDiff, Nat.reduceEqDiff, Nat.reduceBEq, reduceCtorEq, reduceIte, List.drop_length, List.any_nil, Bool.or_false]
  | succ n ih =>
    intro k t h0 h1
    have hk : k < b.length := by omega
    have hb1 := hb.1
    rw [run_loop, drop_consG b k hk]
    have e3 := wsucc k (by omega)
    have hs := f50 (a.getD i []) (b.getD k []) (ha.get i)
    cases t with
    | true =>
      simp only [r44_0, r44_1, r44_2, r44_3, r44_4, r44_5, r44_6, r44_7, r44_9, r44_10, r44_11, r44_13, F44, q44_8, q44_12, q44, go_sem, Int.reduceToNat, Int.reduceLE, Int.reduceLT, Int.reduceEq, Int.reduceNe, Int.reduceNeg, Int.reduceAdd, Int.reduceSub, Int.reduceMul, Nat.reducePow, Nat.reduceDiv, Nat.reduceMod, Nat.reduceAdd, Nat.reduceSub, Nat.reduceMul, Nat.reduceLT, Nat.reduceLeDiff, Nat.reduceEqDiff, Nat.reduceBEq, reduceCtorEq, reduceIte, hi, hk, e3, getD_bytS a i hi, getD_bytS b k hk, ih (k + 1) _ (by omega) (by omega), List.any_cons]
    | false =>
      simp only [r44_0, r44_1, r44_2, r44_3, r44_4, r44_5, r44_6, r44_7, r44_9, r44_10, r44_11, r44_13, F44, q44_8, q44_12, q44, go_sem, Int.reduceToNat, Int.reduceLE, Int.reduceLT, Int.reduceEq, Int.reduceNe, Int.reduceNeg, Int.reduceAdd, Int.reduceSub, Int.reduceMul, Nat.reducePow, Nat.reduceDiv, Nat.reduceMod, Nat.reduceAdd, Nat.reduceSub, Nat.reduceMul, Nat.reduceLT, Nat.reduceLeDiff, Nat.reduceEqDiff, Nat.reduceBEq, reduceCtorEq, reduceIte, hi, hk, e3, getD_bytS a i hi, getD_bytS b k hk, hs, S_50, ih (k + 1) _ (by omega) (by omega), List.any_cons]
theorem l44 (a b : List (List UInt8)) (ha : okG a) (hb : okG b) : ∀ (n i : Nat), a.length - i = n → i ≤ a.length →
    run T (.loop r44_12) ⟨[(0, .lst 1 (a.map bytS) .no), (1, .lst 1 (b.map bytS) .no), (5, .int .i64 i)], [], []⟩ =
      if subsetB (a.drop i) b = true then some (.x 0, ⟨[], [], []⟩) else some (.r, ⟨[(4, .bool false)], [], []⟩) := by
  intro n
  induction n with
  | zero =>
    intro i h0 h1
    have hi : i = a.length := by omega
    subst hi
    rw [run_loop]
    simp only [r44_0, r44_1, r44_2, r44_3, r44_4, r44_5, r44_6, r44_7, r44_9, r44_10, r44_11, r44_13, F44, q44_8, q44_12, q44, go_sem, Int.reduceToNat, Int.reduceLE, Int.reduceLT, Int.reduceEq, Int.reduceNe, Int.reduceNeg, Int.reduceAdd, Int.reduceSub, Int.reduceMul, Nat.reducePow, Nat.reduceDiv, Nat.reduceMod, Nat.reduceAdd, Nat.reduceSub, Nat.reduceMul, Nat.reduceLT, Nat.reduceLeDiff, Nat.reduceEqDiff, Nat.reduceBEq, reduceCtorEq, reduceIte, List.drop_length, subsetB]
  | succ n ih =>
    intro i h0 h1
    have hi : i < a.length := by omega
    have ha1 := ha.1
    rw [run_loop, drop_consG a i hi]
    have e3 := wsucc i (by omega)
    have h := l44b a b i hi ha hb _ 0 false rfl (by omega)
    simp only [Int.natCast_zero, List.drop_zero, Bool.false_or] at h
    have hcons : subsetB (a.getD i [] :: a.drop (i + 1)) b = ((b.any fun y => decide (a.getD i [] = y)) && subsetB (a.drop (i + 1)) b) := rfl
    rw [hcons]
    simp only [r44_0, r44_1, r44_2, r44_3, r44_4, r44_5, r44_6, r44_7, r44_9, r44_10, r44_11, r44_13, F44, q44_8, q44_12, q44, go_sem, Int.reduceToNat, Int.reduceLE, Int.reduceLT, Int.reduceEq, Int.reduceNe, Int.reduceNeg, Int.reduceAdd, Int.reduceSub, Int.reduceMul, Nat.reducePow, Nat.reduceDiv, Nat.reduceMod, Nat.reduceAdd, Nat.reduceSub, Nat.reduceMul, Nat.reduceLT, Nat.reduceLeDiff, Nat.reduceEqDiff, Nat.reduceBEq, reduceCtorEq, reduceIte, hi, e3, h, ih (i + 1) (by omega) (by omega)]
    by_cases hc : (b.any fun y => decide (a.getD i [] = y)) = true
    · simp only [hc, go_sem, Int.reduceToNat, Int.reduceLE, Int.reduceLT, Int.reduceEq, Int.reduceNe, Int.reduceNeg, Int.reduceAdd, Int.reduceSub, Int.reduceMul, Nat.reducePow, Nat.reduceDiv, Nat.reduceMod, Nat.reduceAdd, Nat.reduceSub, Nat.reduceMul, Nat.reduceLT, Nat.reduceLeDiff, Nat.reduceEqDiff, Nat.reduceBEq, reduceCtorEq, reduceIte, r44_0, r44_1, r44_2, r44_3, r44_4, r44_5, r44_6, r44_7, r44_9, r44_10, r44_11, r44_13, F44, q44_8, q44_12, q44]
    · have hc' : (b.any fun y => decide (a.getD i [] = y)) = false := (Bool.not_eq_true _).mp hc
      simp only [hc', go_sem, Int.reduceToNat, Int.reduceLE, Int.reduceLT, Int.reduceEq, Int.reduceNe, Int.reduceNeg, Int.reduceAdd, Int.reduceSub, Int.reduceMul, Nat.reducePow, Nat.reduceDiv, Nat.reduceMod, Nat.reduceAdd, Nat.reduceSub, Nat.reduceMul, Nat.reduceLT, Nat.reduceLeDiff, Nat.reduceEqDiff, Nat.reduceBEq, reduceCtorEq, reduceIte, r44_0, r44_1, r44_2, r44_3, r44_4, r44_5, r44_6, r44_7, r44_9, r44_10, r44_11, r44_13, F44, q44_8, q44_12, q44]
theorem f44 (a b : List (List UInt8)) (ha : okG a) (hb : okG b) : call T 44 [.lst 1 (a.map bytS) .no, .lst 1 (b.map bytS) .no] [] 0 = some ⟨.bool (subsetB a b), [], []⟩ := by
  have h := l44 a b ha hb _ 0 rfl (by omega)
  rw [call_code T_44]
  simp only [Int.natCast_zero, List.drop_zero] at h
  simp only [r44_0, r44_1, r44_2, r44_3, r44_4, r44_5, r44_6, r44_7, r44_9, r44_10, r44_11, r44_13, F44, q44_8, q44_12, q44, go_sem, Int.reduceToNat, Int.reduceLE, Int.reduceLT, Int.reduceEq, Int.reduceNe, Int.reduceNeg, Int.reduceAdd, Int.reduceSub, Int.reduceMul, Nat.reducePow, Nat.reduceDiv, Nat.reduceMod, Nat.reduceAdd, Nat.reduceSub, Nat.reduceMul, Nat.reduceLT, Nat.reduceLeDiff, Nat.reduceEqDiff, Nat.reduceBEq, reduceCtorEq, reduceIte, h]
  by_cases hc : subsetB a b = true
  · simp only [hc, r44_0, r44_1, r44_2, r44_3, r44_4, r44_5, r44_6, r44_7, r44_9, r44_10, r44_11, r44_13, F44, q44_8, q44_12, q44, go_sem, Int.reduceToNat, Int.reduceLE, Int.reduceLT, Int.reduceEq, Int.reduceNe, Int.reduceNeg, Int.reduceAdd, Int.reduceSub, Int.reduceMul, Nat.reducePow, Nat.reduceDiv, Nat.reduceMod, Nat.reduceAdd, Nat.reduceSub, Nat.reduceMul, Nat.reduceLT, Nat.reduceLeDiff, Nat.reduceEqDiff, Nat.reduceBEq, reduceCtorEq, reduceIte]
  · have hc' : subsetB a b = false := (Bool.not_eq_true _).mp hc
    simp only [hc', r44_0, r44_1, r44_2, r44_3, r44_4, r44_5, r44_6, r44_7, r44_9, r44_10, r44_11, r44_13, F44, q44_8, q44_12, q44, go_sem, Int.reduceToNat, Int.reduceLE, Int.reduceLT, Int.reduceEq, Int.reduceNe, Int.reduceNeg, Int.reduceAdd, Int.reduceSub, Int.reduceMul, Nat.reducePow, Nat.reduceDiv, Nat.reduceMod, Nat.reduceAdd, Nat.reduceSub, Nat.reduceMul, Nat.reduceLT, Nat.reduceLeDiff, Nat.reduceEqDiff, Nat.reduceBEq, reduceCtorEq, reduceIte]
def keepR (now : Int) (fs : List (List UInt8)) (x : Lease) : Bool := decide (now < x.u) && subsetB x.g fs
theorem l27 (l : List Lease) (H : List Hold) (now : Int) (fs : List (List UInt8)) (hl : okL l) (hf : okG fs) : ∀ (n i : Nat) (acc : List Lease), l.length - i = n → i ≤ l.length → acc.length ≤ i →
    run T (.loop r27_8) ⟨[(1, .int .i64 now), (2, .lst 1 (fs.map bytS) .no), (3, .ptr 103 0), (6, .ptr 106 0), (7, .lst 3 (acc.map Lease.sv) (.id 107)), (8, .int .i64 i)],
        [(103, .rc [.lst 3 (l.map Lease.sv) .no, .lst 3 (H.map Hold.sv) .no]), (106, .rc [.lst 3 [] .clip, .lst 3 [] .clip])], [107]⟩ =
      some (.x 0, ⟨[(3, .ptr 103 0), (6, .ptr 106 0), (7, .lst 3 ((acc ++ (l.drop i).filter (keepR now fs)).map Lease.sv) (.id 107))],
        [(103, .rc [.lst 3 (l.map Lease.sv) .no, .lst 3 (H.map Hold.sv) .no]), (106, .rc [.lst 3 [] .clip, .lst 3 [] .clip])], [107]⟩) := by
  intro n
  induction n with
  | zero =>
    intro i acc h0 h1 ha
    have hi : i = l.length := by omega
    subst hi
    rw [run_loop]
    simp only [r27_0, r27_1, r27_2, r27_3, r27_4, r27_5, r27_6, r27_7, r27_9, r27_10, F27, q27_8, q27, go_sem, Int.reduceToNat, Int.reduceLE, Int.reduceLT, Int.reduceEq, Int.reduceNe, Int.reduceNeg, Int.reduceAdd, Int.reduceSub, Int.reduceMul, Nat.reducePow, Nat.reduceDiv, Nat.reduceMod, Nat.reduceAdd, Nat.reduceSub, Nat.reduceMul, Nat.reduceLT, Nat.reduceLeDiff, Nat.reduceEqDiff, Nat.reduceBEq, reduceCtorEq, reduceIte, List.drop_length, List.filter_nil]
  | succ n ih =>
    intro i acc h0 h1 ha
    have hi : i < l.length := by omega
    have hl1 := hl.1
    rw [run_loop, drop_cons l i hi]
    have e2 := getD_map Lease.sv l i hi
    have e3 := wsucc i (by omega)
    have e4 : (acc.length + 1) * 40 ≤ 140737488355328 := by omega
    have hg := hl.get hi
    have hq := f44 (l.getD i default).g fs hg hf
    simp only [r27_0, r27_1, r27_2, r27_3, r27_4, r27_5, r27_6, r27_7, r27_9, r27_10, F27, q27_8, q27, go_sem, Int.reduceToNat, Int.reduceLE, Int.reduceLT, Int.reduceEq, Int.reduceNe, Int.reduceNeg, Int.reduceAdd, Int.reduceSub, Int.reduceMul, Nat.reducePow, Nat.reduceDiv, Nat.reduceMod, Nat.reduceAdd, Nat.reduceSub, Nat.reduceMul, Nat.reduceLT, Nat.reduceLeDiff, Nat.reduceEqDiff, Nat.reduceBEq, reduceCtorEq, reduceIte, hi, e2, Lease.sv, gsSV, e3, hq, S_44, List.filter_cons]
    have h1' := ih (i + 1) acc (by omega) (by omega) (by omega)
    have h2' := ih (i + 1) (acc ++ [l.getD i default]) (by omega) (by omega) (by simp; omega)
    simp only [List.map_append, List.map_cons, List.map_nil, Lease.sv, gsSV, List.append_assoc, List.cons_append, List.nil_append] at h1' h2'
    by_cases hc : now < (l.getD i default).u
    · by_cases hd : subsetB (l.getD i default).g fs = true
      · have hk : keepR now fs (l.getD i default) = true := by simp only [keepR, hc, hd, decide_true, Bool.and_true]
        simp only [hc, hd, hk, e4, go_sem, Int.reduceToNat, Int.reduceLE, Int.reduceLT, Int.reduceEq, Int.reduceNe, Int.reduceNeg, Int.reduceAdd, Int.reduceSub, Int.reduceMul, Nat.reducePow, Nat.reduceDiv, Nat.reduceMod, Nat.reduceAdd, Nat.reduceSub, Nat.reduceMul, Nat.reduceLT, Nat.reduceLeDiff, Nat.reduceEqDiff, Nat.reduceBEq, reduceCtorEq, reduceIte, r27_0, r27_1, r27_2, r27_3, r27_4, r27_5, r27_6, r27_7, r27_9, r27_10, F27, q27_8, q27, h2', Lease.sv, gsSV]
      · have hd' : subsetB (l.getD i default).g fs = false := (Bool.not_eq_true _).mp hd
        have hk : keepR now fs (l.getD i default) = false := by simp only [keepR, hc, hd', decide_true, Bool.and_false]
        simp only [hc, hd', hk, go_sem, Int.reduceToNat, Int.reduceLE, Int.reduceLT, Int.reduceEq, Int.reduceNe, Int.reduceNeg, Int.reduceAdd, Int.reduceSub, Int.reduceMul, Nat.reducePow, Nat.reduceDiv, Nat.reduceMod, Nat.reduceAdd, Nat.reduceSub, Nat.reduceMul, Nat.reduceLT, Nat.reduceLeDiff, Nat.reduceEqDiff, Nat.reduceBEq, reduceCtorEq, reduceIte, r27_0, r27_1, r27_2, r27_3, r27_4, r27_5, r27_6, r27_7, r27_9, r27_10, F27, q27_8, q27, h1']
    · have hk : keepR now fs (l.getD i default) = false := by simp only [keepR, hc, decide_false, Bool.false_and]
      simp only [hc, hk, go_sem, Int.reduceToNat, Int.reduceLE, Int.reduceLT, Int.reduceEq, Int.reduceNe, Int.reduceNeg, Int.reduceAdd, Int.reduceSub, Int.reduceMul, Nat.reducePow, Nat.reduceDiv, Nat.reduceMod, Nat.reduceAdd, Nat.reduceSub, Nat.reduceMul, Nat.reduceLT, Nat.reduceLeDiff, Nat.reduceEqDiff, Nat.reduceBEq, reduceCtorEq, reduceIte, r27_0, r27_1, r27_2, r27_3, r27_4, r27_5, r27_6, r27_7, r27_9, r27_10, F27, q27_8, q27, h1']
theorem f27 (l : Ls) (now : Int) (fs : List (List UInt8)) (hl : okL l.ls) (hf : okG fs) : call T 27 [l.sv, .int .i64 now, .lst 1 (fs.map bytS) .no] [] 0 = some ⟨(Ls.mk (l.ls.filter (keepR now fs)) l.hs).sv, [], []⟩ := by
  have h := l27 l.ls l.hs now fs hl hf _ 0 [] rfl (by omega) (by simp)
  rw [call_code T_27]
  simp only [Int.natCast_zero, List.drop_zero, List.map_nil, List.nil_append] at h
  simp only [r27_0, r27_1, r27_2, r27_3, r27_4, r27_5, r27_6, r27_7, r27_9, r27_10, F27, q27_8, q27, go_sem, Int.reduceToNat, Int.reduceLE, Int.reduceLT, Int.reduceEq, Int.reduceNe, Int.reduceNeg, Int.reduceAdd, Int.reduceSub, Int.reduceMul, Nat.reducePow, Nat.reduceDiv, Nat.reduceMod, Nat.reduceAdd, Nat.reduceSub, Nat.reduceMul, Nat.reduceLT, Nat.reduceLeDiff, Nat.reduceEqDiff, Nat.reduceBEq, reduceCtorEq, reduceIte, Ls.sv, lsSV, hsSV, h]
def admP (l : List Lease) (m now : Int) : Bool := has (l.map Lease.m) m && decide (now < (l.getD (lb (l.map Lease.m) m) default).u)
theorem f24 (l : Ls) (m now : Int) (hs : Sorted (l.ls.map Lease.m)) (hl : l.ls.length ≤ 1000000000) : call T 24 [l.sv, .int .i64 m, .int .i64 now] [] 0 = some ⟨.bool (admP l.ls m now), [], []⟩ := by
  have h := f31 l m hs hl
  rw [call_code T_24]
  simp only [Ls.sv, lsSV, hsSV] at h ⊢
  by_cases hc : has (l.ls.map Lease.m) m = true
  · have hk : lb (l.ls.map Lease.m) m < l.ls.length := by
      unfold has at hc
      rw [decide_eq_true_eq, List.length_map] at hc
      exact hc.1
    simp only [hc] at h
    simp only [r24_0, r24_1, r24_2, F24, q24, go_sem, Int.reduceToNat, Int.reduceLE, Int.reduceLT, Int.reduceEq, Int.reduceNe, Int.reduceNeg, Int.reduceAdd, Int.reduceSub, Int.reduceMul, Nat.reducePow, Nat.reduceDiv, Nat.reduceMod, Nat.reduceAdd, Nat.reduceSub, Nat.reduceMul, Nat.reduceLT, Nat.reduceLeDiff, Nat.reduceEqDiff, Nat.reduceBEq, reduceCtorEq, reduceIte, h, S_31, hk, getD_map Lease.sv _ _ hk, Lease.sv, gsSV, admP, hc]
  · have hc' : has (l.ls.map Lease.m) m = false := (Bool.not_eq_true _).mp hc
    simp only [hc'] at h
    simp only [r24_0, r24_1, r24_2, F24, q24, go_sem, Int.reduceToNat, Int.reduceLE, Int.reduceLT, Int.reduceEq, Int.reduceNe, Int.reduceNeg, Int.reduceAdd, Int.reduceSub, Int.reduceMul, Nat.reducePow, Nat.reduceDiv, Nat.reduceMod, Nat.reduceAdd, Nat.reduceSub, Nat.reduceMul, Nat.reduceLT, Nat.reduceLeDiff, Nat.reduceEqDiff, Nat.reduceBEq, reduceCtorEq, reduceIte, h, S_31, admP, hc']
def admR (l : List Lease) (m now : Int) : Bool := (findL l m).isSome && decide (now < ((findL l m).getD default).u)
theorem f25 (l : Ls) (m now : Int) (hl : l.ls.length ≤ 1000000000) : call T 25 [l.sv, .int .i64 m, .int .i64 now] [] 0 = some ⟨.bool (admR l.ls m now), [], []⟩ := by
  have h := f28 l m hl
  rw [call_code T_25]
  simp only [Ls.sv, lsSV, hsSV, Lease.sv, gsSV] at h ⊢
  cases hc : (findL l.ls m).isSome with
  | true =>
    simp only [hc] at h
    simp only [r25_0, r25_1, r25_2, F25, q25, go_sem, Int.reduceToNat, Int.reduceLE, Int.reduceLT, Int.reduceEq, Int.reduceNe, Int.reduceNeg, Int.reduceAdd, Int.reduceSub, Int.reduceMul, Nat.reducePow, Nat.reduceDiv, Nat.reduceMod, Nat.reduceAdd, Nat.reduceSub, Nat.reduceMul, Nat.reduceLT, Nat.reduceLeDiff, Nat.reduceEqDiff, Nat.reduceBEq, reduceCtorEq, reduceIte, h, S_28, admR, hc]
  | false =>
    simp only [hc] at h
    simp only [r25_0, r25_1, r25_2, F25, q25, go_sem, Int.reduceToNat, Int.reduceLE, Int.reduceLT, Int.reduceEq, Int.reduceNe, Int.reduceNeg, Int.reduceAdd, Int.reduceSub, Int.reduceMul, Nat.reducePow, Nat.reduceDiv, Nat.reduceMod, Nat.reduceAdd, Nat.reduceSub, Nat.reduceMul, Nat.reduceLT, Nat.reduceLeDiff, Nat.reduceEqDiff, Nat.reduceBEq, reduceCtorEq, reduceIte, h, S_28, admR, hc]
end Go.Proofs.Ytghggnfomlibjaa
