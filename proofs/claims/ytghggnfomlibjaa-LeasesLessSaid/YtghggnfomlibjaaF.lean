/-
  Grants of the reference; lists compared; digests drawn.
-/
import Derived.Test.YtghggnfomlibjaaE
set_option maxRecDepth 100000
set_option linter.unusedSimpArgs false
set_option linter.unusedVariables false
namespace Go.Proofs.Ytghggnfomlibjaa
open Go.Sy

def itemG (l : List Lease) (x : Lease) (j : Int) : List Lease := if j = x.m then [x] else (findL l j).toList
theorem s14 (L : List Lease) (H : List Hold) (m now : Int) (g : List (List UInt8)) (hL : L.length ≤ 1000000000) (hn : 0 ≤ now ∧ now ≤ 1099511627776) (i : Nat) (hi : i ≤ 4) (acc : List Lease) (ha : acc.length ≤ 10) :
    run T (.loop r14_16) ⟨[(1, .int .i64 m), (2, .int .i64 now), (3, gsSV g), (4, .ptr 104 0), (8, .ptr 108 0), (10, .lst 3 (acc.map Lease.sv) (.id 110)), (11, .int .i64 i)], [(104, .rc [.lst 3 (L.map Lease.sv) .no, .lst 3 (H.map Hold.sv) .no]), (108, .rc [.lst 3 [] .clip, .lst 3 [] .clip])], [110]⟩ =
    run T (.loop r14_16) ⟨[(1, .int .i64 m), (2, .int .i64 now), (3, gsSV g), (4, .ptr 104 0), (8, .ptr 108 0), (10, .lst 3 ((acc ++ itemG L ⟨m, now + 64, g⟩ i).map Lease.sv) (.id 110)), (11, .int .i64 (i + 1 : Nat))], [(104, .rc [.lst 3 (L.map Lease.sv) .no, .lst 3 (H.map Hold.sv) .no]), (108, .rc [.lst 3 [] .clip, .lst 3 [] .clip])], [110]⟩ := by
  have e1 : (i : Int) ≤ 4 := by omega
  have e3 := wsucc i (by omega)
  have e4 : (acc.length + 1) * 40 ≤ 140737488355328 := by omega
  have e5 : IntKind.i64.wrap (now + 64) = now + 64 := w64 (by omega) (by omega)
  have h := f28 ⟨L, H⟩ i hL
  simp only [Ls.sv, lsSV, hsSV, Lease.sv, gsSV] at h
  rw [run_loop]
  by_cases hc : (i : Int) = m
  · simp only [r14_0, r14_1, r14_2, r14_3, r14_4, r14_5, r14_6, r14_7, r14_8, r14_9, r14_10, r14_11, r14_12, r14_13, r14_14, r14_15, r14_17, r14_18, F14, q14_16, q14, go_sem, Int.reduceToNat, Int.reduceLE, Int.reduceLT, Int.reduceEq, Int.reduceNe, Int.reduceNeg, Int.reduceAdd, Int.reduceSub, Int.reduceMul, Nat.reducePow, Nat.reduceDiv, Nat.reduceMod, Nat.reduceAdd, Nat.reduceSub, Nat.reduceMul, Nat.reduceLT, Nat.reduceLeDiff, Nat.reduceEqDiff, Nat.reduceBEq, reduceCtorEq, reduceIte, gsSV, e1, hc, itemG, e4, e5, Lease.sv]
    rw [← hc]
    simp only [r14_0, r14_1, r14_2, r14_3, r14_4, r14_5, r14_6, r14_7, r14_8, r14_9, r14_10, r14_11, r14_12, r14_13, r14_14, r14_15, r14_17, r14_18, F14, q14_16, q14, go_sem, Int.reduceToNat, Int.reduceLE, Int.reduceLT, Int.reduceEq, Int.reduceNe, Int.reduceNeg, Int.reduceAdd, Int.reduceSub, Int.reduceMul, Nat.reducePow, Nat.reduceDiv, Nat.reduceMod, Nat.reduceAdd, Nat.reduceSub, Nat.reduceMul, Nat.reduceLT, Nat.reduceLeDiff, Nat.reduceEqDiff, Nat.reduceBEq, reduceCtorEq, reduceIte, gsSV, e1, itemG, e3, e4, e5, Lease.sv]
  · cases hf : findL L i with
    | none =>
      simp only [hf, go_sem, Int.reduceToNat, Int.reduceLE, Int.reduceLT, Int.reduceEq, Int.reduceNe, Int.reduceNeg, Int.reduceAdd, Int.reduceSub, Int.reduceMul, Nat.reducePow, Nat.reduceDiv, Nat.reduceMod, Nat.reduceAdd, Nat.reduceSub, Nat.reduceMul, Nat.reduceLT, Nat.reduceLeDiff, Nat.reduceEqDiff, Nat.reduceBEq, reduceCtorEq, reduceIte] at h
      simp only [r14_0, r14_1, r14_2, r14_3, r14_4, r14_5, r14_6, r14_7, r14_8, r14_9, r14_10, r14_11, r14_12, r14_13, r14_14, r14_15, r14_17, r14_18, F14, q14_16, q14, go_sem, Int.reduceToNat, Int.reduceLE, Int.reduceLT, Int.reduceEq, Int.reduceNe, Int.reduceNeg, Int.reduceAdd, Int.reduceSub, Int.reduceMul, Nat.reducePow, Nat.reduceDiv, Nat.reduceMod, Nat.reduceAdd, Nat.reduceSub, Nat.reduceMul, Nat.reduceLT, Nat.reduceLeDiff, Nat.reduceEqDiff, Nat.reduceBEq, reduceCtorEq, reduceIte, gsSV, e1, hc, itemG, e3, h, S_28, hf]
    | some x =>
      simp only [hf, go_sem, Int.reduceToNat, Int.reduceLE, Int.reduceLT, Int.reduceEq, Int.reduceNe, Int.reduceNeg, Int.reduceAdd, Int.reduceSub, Int.reduceMul, Nat.reducePow, Nat.reduceDiv, Nat.reduceMod, Nat.reduceAdd, Nat.reduceSub, Nat.reduceMul, Nat.reduceLT, Nat.reduceLeDiff, Nat.reduceEqDiff, Nat.reduceBEq, reduceCtorEq, reduceIte] at h
      simp only [r14_0, r14_1, r14_2, r14_3, r14_4, r14_5, r14_6, r14_7, r14_8, r14_9, r14_10, r14_11, r14_12, r14_13, r14_14, r14_15, r14_17, r14_18, F14, q14_16, q14, go_sem, Int.reduceToNat, Int.reduceLE, Int.reduceLT, Int.reduceEq, Int.reduceNe, Int.reduceNeg, Int.reduceAdd, Int.reduceSub, Int.reduceMul, Nat.reducePow, Nat.reduceDiv, Nat.reduceMod, Nat.reduceAdd, Nat.reduceSub, Nat.reduceMul, Nat.reduceLT, Nat.reduceLeDiff, Nat.reduceEqDiff, Nat.reduceBEq, reduceCtorEq, reduceIte, gsSV, e1, hc, itemG, e3, e4, h, S_28, hf, Lease.sv]
def grantR (l : Ls) (m now : Int) (g : List (List UInt8)) : Ls × Int :=
  if m < 1 ∨ 4 < m then (⟨[], []⟩, 49) else if now < 0 ∨ 1099511627776 < now then (⟨[], []⟩, 1) else if (l.hs.map Hold.m).contains m = true then (⟨[], []⟩, 48)
  else (⟨itemG l.ls ⟨m, now + 64, g⟩ 1 ++ itemG l.ls ⟨m, now + 64, g⟩ 2 ++ itemG l.ls ⟨m, now + 64, g⟩ 3 ++ itemG l.ls ⟨m, now + 64, g⟩ 4, l.hs⟩, 0)
theorem itemG_len (l : List Lease) (x : Lease) (j : Int) : (itemG l x j).length ≤ 1 := by
  unfold itemG
  split
  · simp
  · cases findL l j <;> simp
theorem f14 (l : Ls) (m now : Int) (g : List (List UInt8)) (hl : l.ls.length ≤ 1000000000) (hl2 : l.hs.length ≤ 1000000000) : call T 14 [l.sv, .int .i64 m, .int .i64 now, gsSV g] [] 0 = some ⟨errV (grantR l m now g).1 (grantR l m now g).2, [], []⟩ := by
  have h := f21 l m hl2
  rw [call_code T_14]
  simp only [Ls.sv, lsSV, hsSV] at h
  simp only [Ls.sv, lsSV, hsSV, errV]
  by_cases h1 : m < 1 ∨ 4 < m
  · simp only [r14_0, r14_1, r14_2, r14_3, r14_4, r14_5, r14_6, r14_7, r14_8, r14_9, r14_10, r14_11, r14_12, r14_13, r14_14, r14_15, r14_17, r14_18, F14, q14_16, q14, go_sem, Int.reduceToNat, Int.reduceLE, Int.reduceLT, Int.reduceEq, Int.reduceNe, Int.reduceNeg, Int.reduceAdd, Int.reduceSub, Int.reduceMul, Nat.reducePow, Nat.reduceDiv, Nat.reduceMod, Nat.reduceAdd, Nat.reduceSub, Nat.reduceMul, Nat.reduceLT, Nat.reduceLeDiff, Nat.reduceEqDiff, Nat.reduceBEq, reduceCtorEq, reduceIte, h, S_21, grantR, h1, gsSV]
  · by_cases h2 : now < 0 ∨ 1099511627776 < now
    · simp only [r14_0, r14_1, r14_2, r14_3, r14_4, r14_5, r14_6, r14_7, r14_8, r14_9, r14_10, r14_11, r14_12, r14_13, r14_14, r14_15, r14_17, r14_18, F14, q14_16, q14, go_sem, Int.reduceToNat, Int.reduceLE, Int.reduceLT, Int.reduceEq, Int.reduceNe, Int.reduceNeg, Int.reduceAdd, Int.reduceSub, Int.reduceMul, Nat.reducePow, Nat.reduceDiv, Nat.reduceMod, Nat.reduceAdd, Nat.reduceSub, Nat.reduceMul, Nat.reduceLT, Nat.reduceLeDiff, Nat.reduceEqDiff, Nat.reduceBEq, reduceCtorEq, reduceIte, h, S_21, grantR, h1, h2, gsSV]
    · cases hc : (l.hs.map Hold.m).contains m with
      | true =>
        simp only [hc] at h
        simp only [r14_0, r14_1, r14_2, r14_3, r14_4, r14_5, r14_6, r14_7, r14_8, r14_9, r14_10, r14_11, r14_12, r14_13, r14_14, r14_15, r14_17, r14_18, F14, q14_16, q14, go_sem, Int.reduceToNat, Int.reduceLE, Int.reduceLT, Int.reduceEq, Int.reduceNe, Int.reduceNeg, Int.reduceAdd, Int.reduceSub, Int.reduceMul, Nat.reducePow, Nat.reduceDiv, Nat.reduceMod, Nat.reduceAdd, Nat.reduceSub, Nat.reduceMul, Nat.reduceLT, Nat.reduceLeDiff, Nat.reduceEqDiff, Nat.reduceBEq, reduceCtorEq, reduceIte, h, S_21, grantR, h1, h2, hc, gsSV]
      | false =>
        simp only [hc] at h
        have a1 := itemG_len l.ls ⟨m, now + 64, g⟩ 1
        have a2 := itemG_len l.ls ⟨m, now + 64, g⟩ 2
        have a3 := itemG_len l.ls ⟨m, now + 64, g⟩ 3
        have hn : 0 ≤ now ∧ now ≤ 1099511627776 := by omega
        have s1 := s14 l.ls l.hs m now g hl hn 1 (by omega) [] (by simp)
        have s2 := s14 l.ls l.hs m now g hl hn 2 (by omega) (itemG l.ls ⟨m, now + 64, g⟩ 1) (by omega)
        have s3 := s14 l.ls l.hs m now g hl hn 3 (by omega) (itemG l.ls ⟨m, now + 64, g⟩ 1 ++ itemG l.ls ⟨m, now + 64, g⟩ 2) (by rw [List.length_append]; omega)
        have s4 := s14 l.ls l.hs m now g hl hn 4 (by omega) (itemG l.ls ⟨m, now + 64, g⟩ 1 ++ itemG l.ls ⟨m, now + 64, g⟩ 2 ++ itemG l.ls ⟨m, now + 64, g⟩ 3) (by simp only [List.length_append]; omega)
        have s := s1.trans (s2.trans (s3.trans s4))
        generalize hA : itemG l.ls ⟨m, now + 64, g⟩ 1 ++ itemG l.ls ⟨m, now + 64, g⟩ 2 ++ itemG l.ls ⟨m, now + 64, g⟩ 3 ++ itemG l.ls ⟨m, now + 64, g⟩ 4 = A
        have c1 : ((1 : Nat) : Int) = 1 := rfl
        have c2 : ((2 : Nat) : Int) = 2 := rfl
        have c3 : ((3 : Nat) : Int) = 3 := rfl
        have c4 : ((4 : Nat) : Int) = 4 := rfl
        have c5 : ((5 : Nat) : Int) = 5 := rfl
        simp only [c1, c2, c3, c4, c5, Nat.reduceAdd, List.nil_append, hA, List.map_nil, gsSV] at s
        have s5 : run T (.loop r14_16) ⟨[(1, .int .i64 m), (2, .int .i64 now), (3, gsSV g), (4, .ptr 104 0), (8, .ptr 108 0), (10, .lst 3 (A.map Lease.sv) (.id 110)), (11, .int .i64 5)], [(104, .rc [.lst 3 (l.ls.map Lease.sv) .no, .lst 3 (l.hs.map Hold.sv) .no]), (108, .rc [.lst 3 [] .clip, .lst 3 [] .clip])], [110]⟩ =
          some (.x 0, ⟨[(4, .ptr 104 0), (8, .ptr 108 0), (10, .lst 3 (A.map Lease.sv) (.id 110))], [(104, .rc [.lst 3 (l.ls.map Lease.sv) .no, .lst 3 (l.hs.map Hold.sv) .no]), (108, .rc [.lst 3 [] .clip, .lst 3 [] .clip])], [110]⟩) := by
          rw [run_loop]
          simp only [r14_0, r14_1, r14_2, r14_3, r14_4, r14_5, r14_6, r14_7, r14_8, r14_9, r14_10, r14_11, r14_12, r14_13, r14_14, r14_15, r14_17, r14_18, F14, q14_16, q14, go_sem, Int.reduceToNat, Int.reduceLE, Int.reduceLT, Int.reduceEq, Int.reduceNe, Int.reduceNeg, Int.reduceAdd, Int.reduceSub, Int.reduceMul, Nat.reducePow, Nat.reduceDiv, Nat.reduceMod, Nat.reduceAdd, Nat.reduceSub, Nat.reduceMul, Nat.reduceLT, Nat.reduceLeDiff, Nat.reduceEqDiff, Nat.reduceBEq, reduceCtorEq, reduceIte, gsSV]
        simp only [gsSV] at s5
        rw [s5] at s
        simp only [r14_0, r14_1, r14_2, r14_3, r14_4, r14_5, r14_6, r14_7, r14_8, r14_9, r14_10, r14_11, r14_12, r14_13, r14_14, r14_15, r14_17, r14_18, F14, q14_16, q14, go_sem, Int.reduceToNat, Int.reduceLE, Int.reduceLT, Int.reduceEq, Int.reduceNe, Int.reduceNeg, Int.reduceAdd, Int.reduceSub, Int.reduceMul, Nat.reducePow, Nat.reduceDiv, Nat.reduceMod, Nat.reduceAdd, Nat.reduceSub, Nat.reduceMul, Nat.reduceLT, Nat.reduceLeDiff, Nat.reduceEqDiff, Nat.reduceBEq, reduceCtorEq, reduceIte, h, S_21, grantR, h1, h2, hc, gsSV, s, ← hA]
theorem lease_ext {a b : Lease} : a = b ↔ a.m = b.m ∧ a.u = b.u ∧ a.g = b.g := by
  cases a; cases b; simp
theorem hold_ext {a b : Hold} : a = b ↔ a.m = b.m ∧ a.r = b.r ∧ a.s = b.s := by
  cases a; cases b; simp
theorem l15 (a b : List Lease) (H K : List Hold) (ha : okL a) (hab : a.length = b.length) : ∀ (n i : Nat), a.length - i = n → i ≤ a.length → ∃ u v,
    run T (.loop r15_9) ⟨[(2, .ptr 102 0), (3, .ptr 103 0), (5, .int .i64 i)], [(102, .rc [.lst 3 (a.map Lease.sv) .no, .lst 3 (H.map Hold.sv) .no]), (103, .rc [.lst 3 (b.map Lease.sv) .no, .lst 3 (K.map Hold.sv) .no])], []⟩ =
      if a.drop i = b.drop i then some (.x 0, ⟨[(2, .ptr 102 0), (3, .ptr 103 0)], [(102, .rc [.lst 3 (a.map Lease.sv) .no, .lst 3 (H.map Hold.sv) .no]), (103, .rc [.lst 3 (b.map Lease.sv) .no, .lst 3 (K.map Hold.sv) .no])], []⟩)
      else some (.r, ⟨[(4, .bool false)], [(102, .rc [.lst 3 (a.map Lease.sv) .no, .lst 3 (H.map Hold.sv) .no]), (103, .rc [.lst 3 (b.map Lease.sv) .no, .lst 3 (K.map Hold.sv) .no]), (106, u), (107, v)], []⟩) := by
  intro n
  induction n with
  | zero =>
    intro i h0 h1
    have hi : i = a.length := by omega
    subst hi
    rw [run_loop]
    have e : List.drop a.length b = [] := by rw [hab, List.drop_length]
    refine ⟨.rc [], .rc [], ?_⟩
    simp only [r15_0, r15_1, r15_2, r15_3, r15_4, r15_5, r15_6, r15_7, r15_8, r15_10, r15_11, r15_12, r15_13, r15_14, r15_16, F15, q15_9, q15_15, q15, go_sem, Int.reduceToNat, Int.reduceLE, Int.reduceLT, Int.reduceEq, Int.reduceNe, Int.reduceNeg, Int.reduceAdd, Int.reduceSub, Int.reduceMul, Nat.reducePow, Nat.reduceDiv, Nat.reduceMod, Nat.reduceAdd, Nat.reduceSub, Nat.reduceMul, Nat.reduceLT, Nat.reduceLeDiff, Nat.reduceEqDiff, Nat.reduceBEq, reduceCtorEq, reduceIte, List.drop_length, e]
  | succ n ih =>
    intro i h0 h1
    have hi : i < a.length := by omega
    have hi2 : i < b.length := by omega
    obtain ⟨u, v, ih⟩ := ih (i + 1) (by omega) (by omega)
    rw [run_loop, drop_cons a i hi, drop_cons b i hi2]
    have e3 := wsucc i (by have := ha.1; omega)
    have e4 := getD_map Lease.sv a i hi
    have e5 := getD_map Lease.sv b i hi2
    have h34 := f34 (a.getD i default).g (b.getD i default).g (ha.get hi)
    simp only [r15_0, r15_1, r15_2, r15_3, r15_4, r15_5, r15_6, r15_7, r15_8, r15_10, r15_11, r15_12, r15_13, r15_14, r15_16, F15, q15_9, q15_15, q15, go_sem, Int.reduceToNat, Int.reduceLE, Int.reduceLT, Int.reduceEq, Int.reduceNe, Int.reduceNeg, Int.reduceAdd, Int.reduceSub, Int.reduceMul, Nat.reducePow, Nat.reduceDiv, Nat.reduceMod, Nat.reduceAdd, Nat.reduceSub, Nat.reduceMul, Nat.reduceLT, Nat.reduceLeDiff, Nat.reduceEqDiff, Nat.reduceBEq, reduceCtorEq, reduceIte, hi, hi2, e3, e4, e5, Lease.sv, gsSV, List.cons.injEq, lease_ext]
    simp (config := {decide := true}) only [gd_pos]
    by_cases c1 : (a.getD i default).m = (b.getD i default).m
    · by_cases c2 : (a.getD i default).u = (b.getD i default).u
      · by_cases c3 : (a.getD i default).g = (b.getD i default).g
        · refine ⟨u, v, ?_⟩
          simp only [c3] at h34
          simp only [r15_0, r15_1, r15_2, r15_3, r15_4, r15_5, r15_6, r15_7, r15_8, r15_10, r15_11, r15_12, r15_13, r15_14, r15_16, F15, q15_9, q15_15, q15, go_sem, Int.reduceToNat, Int.reduceLE, Int.reduceLT, Int.reduceEq, Int.reduceNe, Int.reduceNeg, Int.reduceAdd, Int.reduceSub, Int.reduceMul, Nat.reducePow, Nat.reduceDiv, Nat.reduceMod, Nat.reduceAdd, Nat.reduceSub, Nat.reduceMul, Nat.reduceLT, Nat.reduceLeDiff, Nat.reduceEqDiff, Nat.reduceBEq, reduceCtorEq, reduceIte, hi, hi2, e3, c1, c2, c3, h34, S_34, ih]
        · simp only [c3] at h34
          simp only [r15_0, r15_1, r15_2, r15_3, r15_4, r15_5, r15_6, r15_7, r15_8, r15_10, r15_11, r15_12, r15_13, r15_14, r15_16, F15, q15_9, q15_15, q15, go_sem, Int.reduceToNat, Int.reduceLE, Int.reduceLT, Int.reduceEq, Int.reduceNe, Int.reduceNeg, Int.reduceAdd, Int.reduceSub, Int.reduceMul, Nat.reducePow, Nat.reduceDiv, Nat.reduceMod, Nat.reduceAdd, Nat.reduceSub, Nat.reduceMul, Nat.reduceLT, Nat.reduceLeDiff, Nat.reduceEqDiff, Nat.reduceBEq, reduceCtorEq, reduceIte, hi, hi2, e3, c1, c2, c3, h34, S_34]
          exact ⟨_, _, rfl⟩
      · simp only [r15_0, r15_1, r15_2, r15_3, r15_4, r15_5, r15_6, r15_7, r15_8, r15_10, r15_11, r15_12, r15_13, r15_14, r15_16, F15, q15_9, q15_15, q15, go_sem, Int.reduceToNat, Int.reduceLE, Int.reduceLT, Int.reduceEq, Int.reduceNe, Int.reduceNeg, Int.reduceAdd, Int.reduceSub, Int.reduceMul, Nat.reducePow, Nat.reduceDiv, Nat.reduceMod, Nat.reduceAdd, Nat.reduceSub, Nat.reduceMul, Nat.reduceLT, Nat.reduceLeDiff, Nat.reduceEqDiff, Nat.reduceBEq, reduceCtorEq, reduceIte, hi, hi2, e3, c1, c2]
        exact ⟨_, _, rfl⟩
    · simp only [r15_0, r15_1, r15_2, r15_3, r15_4, r15_5, r15_6, r15_7, r15_8, r15_10, r15_11, r15_12, r15_13, r15_14, r15_16, F15, q15_9, q15_15, q15, go_sem, Int.reduceToNat, Int.reduceLE, Int.reduceLT, Int.reduceEq, Int.reduceNe, Int.reduceNeg, Int.reduceAdd, Int.reduceSub, Int.reduceMul, Nat.reducePow, Nat.reduceDiv, Nat.reduceMod, Nat.reduceAdd, Nat.reduceSub, Nat.reduceMul, Nat.reduceLT, Nat.reduceLeDiff, Nat.reduceEqDiff, Nat.reduceBEq, reduceCtorEq, reduceIte, hi, hi2, e3, c1]
      exact ⟨_, _, rfl⟩
theorem l15h (L M : List Lease) (a b : List Hold) (hl : a.length ≤ 1000000000) (hab : a.length = b.length) : ∀ (n i : Nat), a.length - i = n → i ≤ a.length →
    run T (.loop r15_15) ⟨[(2, .ptr 102 0), (3, .ptr 103 0), (8, .int .i64 i)], [(102, .rc [.lst 3 (L.map Lease.sv) .no, .lst 3 (a.map Hold.sv) .no]), (103, .rc [.lst 3 (M.map Lease.sv) .no, .lst 3 (b.map Hold.sv) .no])], []⟩ =
      if a.drop i = b.drop i then some (.x 2, ⟨[], [(102, .rc [.lst 3 (L.map Lease.sv) .no, .lst 3 (a.map Hold.sv) .no]), (103, .rc [.lst 3 (M.map Lease.sv) .no, .lst 3 (b.map Hold.sv) .no])], []⟩)
      else some (.r, ⟨[(4, .bool false)], [(102, .rc [.lst 3 (L.map Lease.sv) .no, .lst 3 (a.map Hold.sv) .no]), (103, .rc [.lst 3 (M.map Lease.sv) .no, .lst 3 (b.map Hold.sv) .no])], []⟩) := by
  intro n
  induction n with
  | zero =>
    intro i h0 h1
    have hi : i = a.length := by omega
    subst hi
    rw [run_loop]
    have e : List.drop a.length b = [] := by rw [hab, List.drop_length]
    simp only [r15_0, r15_1, r15_2, r15_3, r15_4, r15_5, r15_6, r15_7, r15_8, r15_10, r15_11, r15_12, r15_13, r15_14, r15_16, F15, q15_9, q15_15, q15, go_sem, Int.reduceToNat, Int.reduceLE, Int.reduceLT, Int.reduceEq, Int.reduceNe, Int.reduceNeg, Int.reduceAdd, Int.reduceSub, Int.reduceMul, Nat.reducePow, Nat.reduceDiv, Nat.reduceMod, Nat.reduceAdd, Nat.reduceSub, Nat.reduceMul, Nat.reduceLT, Nat.reduceLeDiff, Nat.reduceEqDiff, Nat.reduceBEq, reduceCtorEq, reduceIte, List.drop_length, e]
  | succ n ih =>
    intro i h0 h1
    have hi : i < a.length := by omega
    have hi2 : i < b.length := by omega
    rw [run_loop, drop_cons a i hi, drop_cons b i hi2]
    have e3 := wsucc i (by omega)
    have e4 := getD_map Hold.sv a i hi
    have e5 := getD_map Hold.sv b i hi2
    simp only [r15_0, r15_1, r15_2, r15_3, r15_4, r15_5, r15_6, r15_7, r15_8, r15_10, r15_11, r15_12, r15_13, r15_14, r15_16, F15, q15_9, q15_15, q15, go_sem, Int.reduceToNat, Int.reduceLE, Int.reduceLT, Int.reduceEq, Int.reduceNe, Int.reduceNeg, Int.reduceAdd, Int.reduceSub, Int.reduceMul, Nat.reducePow, Nat.reduceDiv, Nat.reduceMod, Nat.reduceAdd, Nat.reduceSub, Nat.reduceMul, Nat.reduceLT, Nat.reduceLeDiff, Nat.reduceEqDiff, Nat.reduceBEq, reduceCtorEq, reduceIte, hi, hi2, e3, e4, e5, Hold.sv, List.cons.injEq, hold_ext, ih (i + 1) (by omega) (by omega)]
    by_cases c1 : (a.getD i default).m = (b.getD i default).m <;> by_cases c2 : (a.getD i default).r = (b.getD i default).r <;> by_cases c3 : (a.getD i default).s = (b.getD i default).s <;> simp only [c1, c2, c3, go_sem, Int.reduceToNat, Int.reduceLE, Int.reduceLT, Int.reduceEq, Int.reduceNe, Int.reduceNeg, Int.reduceAdd, Int.reduceSub, Int.reduceMul, Nat.reducePow, Nat.reduceDiv, Nat.reduceMod, Nat.reduceAdd, Nat.reduceSub, Nat.reduceMul, Nat.reduceLT, Nat.reduceLeDiff, Nat.reduceEqDiff, Nat.reduceBEq, reduceCtorEq, reduceIte]
theorem f15 (x y : Ls) (ha : okL x.ls) (hl : x.hs.length ≤ 1000000000) : call T 15 [x.sv, y.sv] [] 0 = some ⟨.bool (decide (x = y)), [], []⟩ := by
  rw [call_code T_15]
  simp only [Ls.sv, lsSV, hsSV]
  by_cases c1 : x.ls.length = y.ls.length
  · by_cases c2 : x.hs.length = y.hs.length
    · obtain ⟨u, v, h⟩ := l15 x.ls y.ls x.hs y.hs ha c1 _ 0 rfl (by omega)
      have h2 := l15h x.ls y.ls x.hs y.hs hl c2 _ 0 rfl (by omega)
      simp only [Int.natCast_zero, List.drop_zero] at h h2
      by_cases d1 : x.ls = y.ls
      · by_cases d2 : x.hs = y.hs
        · have e : decide (x = y) = true := by rw [decide_eq_true_eq]; cases x; cases y; simp only at d1 d2; rw [d1, d2]
          simp only [d1, d2] at h h2
          simp only [r15_0, r15_1, r15_2, r15_3, r15_4, r15_5, r15_6, r15_7, r15_8, r15_10, r15_11, r15_12, r15_13, r15_14, r15_16, F15, q15_9, q15_15, q15, go_sem, Int.reduceToNat, Int.reduceLE, Int.reduceLT, Int.reduceEq, Int.reduceNe, Int.reduceNeg, Int.reduceAdd, Int.reduceSub, Int.reduceMul, Nat.reducePow, Nat.reduceDiv, Nat.reduceMod, Nat.reduceAdd, Nat.reduceSub, Nat.reduceMul, Nat.reduceLT, Nat.reduceLeDiff, Nat.reduceEqDiff, Nat.reduceBEq, reduceCtorEq, reduceIte, c1, c2, h, h2, e, d1, d2]
        · have e : decide (x = y) = false := by rw [decide_eq_false_iff_not]; intro hh; exact d2 (by rw [hh])
          simp only [d1, d2] at h h2
          simp only [r15_0, r15_1, r15_2, r15_3, r15_4, r15_5, r15_6, r15_7, r15_8, r15_10, r15_11, r15_12, r15_13, r15_14, r15_16, F15, q15_9, q15_15, q15, go_sem, Int.reduceToNat, Int.reduceLE, Int.reduceLT, Int.reduceEq, Int.reduceNe, Int.reduceNeg, Int.reduceAdd, Int.reduceSub, Int.reduceMul, Nat.reducePow, Nat.reduceDiv, Nat.reduceMod, Nat.reduceAdd, Nat.reduceSub, Nat.reduceMul, Nat.reduceLT, Nat.reduceLeDiff, Nat.reduceEqDiff, Nat.reduceBEq, reduceCtorEq, reduceIte, c1, c2, h, h2, e, d1, d2]
      · have e : decide (x = y) = false := by rw [decide_eq_false_iff_not]; intro hh; exact d1 (by rw [hh])
        simp only [d1] at h
        simp only [r15_0, r15_1, r15_2, r15_3, r15_4, r15_5, r15_6, r15_7, r15_8, r15_10, r15_11, r15_12, r15_13, r15_14, r15_16, F15, q15_9, q15_15, q15, go_sem, Int.reduceToNat, Int.reduceLE, Int.reduceLT, Int.reduceEq, Int.reduceNe, Int.reduceNeg, Int.reduceAdd, Int.reduceSub, Int.reduceMul, Nat.reducePow, Nat.reduceDiv, Nat.reduceMod, Nat.reduceAdd, Nat.reduceSub, Nat.reduceMul, Nat.reduceLT, Nat.reduceLeDiff, Nat.reduceEqDiff, Nat.reduceBEq, reduceCtorEq, reduceIte, c1, c2, h, e, d1]
    · have e : decide (x = y) = false := by rw [decide_eq_false_iff_not]; intro hh; exact c2 (by rw [hh])
      simp only [r15_0, r15_1, r15_2, r15_3, r15_4, r15_5, r15_6, r15_7, r15_8, r15_10, r15_11, r15_12, r15_13, r15_14, r15_16, F15, q15_9, q15_15, q15, go_sem, Int.reduceToNat, Int.reduceLE, Int.reduceLT, Int.reduceEq, Int.reduceNe, Int.reduceNeg, Int.reduceAdd, Int.reduceSub, Int.reduceMul, Nat.reducePow, Nat.reduceDiv, Nat.reduceMod, Nat.reduceAdd, Nat.reduceSub, Nat.reduceMul, Nat.reduceLT, Nat.reduceLeDiff, Nat.reduceEqDiff, Nat.reduceBEq, reduceCtorEq, reduceIte, c1, c2, e]
  · have e : decide (x = y) = false := by rw [decide_eq_false_iff_not]; intro hh; exact c1 (by rw [hh])
    simp only [r15_0, r15_1, r15_2, r15_3, r15_4, r15_5, r15_6, r15_7, r15_8, r15_10, r15_11, r15_12, r15_13, r15_14, r15_16, F15, q15_9, q15_15, q15, go_sem, Int.reduceToNat, Int.reduceLE, Int.reduceLT, Int.reduceEq, Int.reduceNe, Int.reduceNeg, Int.reduceAdd, Int.reduceSub, Int.reduceMul, Nat.reducePow, Nat.reduceDiv, Nat.reduceMod, Nat.reduceAdd, Nat.reduceSub, Nat.reduceMul, Nat.reduceLT, Nat.reduceLeDiff, Nat.reduceEqDiff, Nat.reduceBEq, reduceCtorEq, reduceIte, c1, e]

def digI (B : List UInt8) (at' i : Nat) : List (List UInt8) := if nextV B at' 3 = 1 then [seedB [UInt8.ofInt i]] else []
theorem s11 (B : List UInt8) (hB : B.length ≤ 1000000000000) (at' i : Nat) (hi : i < 4) (acc : List (List UInt8)) (ha : acc.length ≤ 10) :
    run T (.loop r11_7) ⟨[(0, .ptr 0 0), (3, .lst 1 (acc.map bytS) (.id 103)), (4, .int .i64 i)], [(0, codesO B at')], [103]⟩ =
    run T (.loop r11_7) ⟨[(0, .ptr 0 0), (3, .lst 1 ((acc ++ digI B at' i).map bytS) (.id 103)), (4, .int .i64 (i + 1 : Nat))], [(0, codesO B (nextA B at'))], [103]⟩ := by
  have e1 : (i : Int) < 4 := by omega
  have e3 := wsucc i (by omega)
  have e4 : (acc.length + 1) * 24 ≤ 140737488355328 := by omega
  have h := f23 B at' 3 (by omega) hB
  have h2 := f29 [UInt8.ofInt i]
  have c3 : ((3 : Nat) : Int) = 3 := rfl
  rw [c3] at h
  rw [run_loop]
  simp only [codesO] at h
  by_cases hc : nextV B at' 3 = 1
  · have c1 : ((1 : Nat) : Int) = 1 := rfl
    simp only [r11_0, r11_1, r11_2, r11_3, r11_4, r11_5, r11_6, r11_8, F11, q11_7, q11, go_sem, Int.reduceToNat, Int.reduceLE, Int.reduceLT, Int.reduceEq, Int.reduceNe, Int.reduceNeg, Int.reduceAdd, Int.reduceSub, Int.reduceMul, Nat.reducePow, Nat.reduceDiv, Nat.reduceMod, Nat.reduceAdd, Nat.reduceSub, Nat.reduceMul, Nat.reduceLT, Nat.reduceLeDiff, Nat.reduceEqDiff, Nat.reduceBEq, reduceCtorEq, reduceIte, codesO, e1, e3, e4, h, h2, c1, S_23, S_29, digI, hc, bytS]
  · have hc' : ¬ ((nextV B at' 3 : Nat) : Int) = 1 := by omega
    simp only [r11_0, r11_1, r11_2, r11_3, r11_4, r11_5, r11_6, r11_8, F11, q11_7, q11, go_sem, Int.reduceToNat, Int.reduceLE, Int.reduceLT, Int.reduceEq, Int.reduceNe, Int.reduceNeg, Int.reduceAdd, Int.reduceSub, Int.reduceMul, Nat.reducePow, Nat.reduceDiv, Nat.reduceMod, Nat.reduceAdd, Nat.reduceSub, Nat.reduceMul, Nat.reduceLT, Nat.reduceLeDiff, Nat.reduceEqDiff, Nat.reduceBEq, reduceCtorEq, reduceIte, codesO, e1, e3, e4, h, hc', S_23, digI, hc]
def nx4 (B : List UInt8) (a : Nat) : Nat := nextA B (nextA B (nextA B (nextA B a)))
def grd (B : List UInt8) (a : Nat) : List (List UInt8) := digI B a 0 ++ digI B (nextA B a) 1 ++ digI B (nextA B (nextA B a)) 2 ++ digI B (nextA B (nextA B (nextA B a))) 3
theorem digI_len (B : List UInt8) (a i : Nat) : (digI B a i).length ≤ 1 := by unfold digI; split <;> simp
theorem seedB_len (a : List UInt8) : (seedB a).length = 32 := by unfold seedB; simp; omega
theorem digI_ok (B : List UInt8) (a i : Nat) : ∀ b ∈ digI B a i, b.length = 32 := by
  unfold digI
  split
  · intro b hb; rw [List.mem_singleton.1 hb]; exact seedB_len _
  · simp
theorem grd_len (B : List UInt8) (a : Nat) : (grd B a).length ≤ 4 := by
  have h0 := digI_len B a 0
  have h1 := digI_len B (nextA B a) 1
  have h2 := digI_len B (nextA B (nextA B a)) 2
  have h3 := digI_len B (nextA B (nextA B (nextA B a))) 3
  simp only [grd, List.length_append]; omega
theorem grd_32 (B : List UInt8) (a : Nat) : ∀ b ∈ grd B a, b.length = 32 := by
  intro b hb
  simp only [grd, List.mem_append] at hb
  rcases hb with ((h | h) | h) | h <;> exact digI_ok _ _ _ b h
theorem f11 (B : List UInt8) (hB : B.length ≤ 1000000000000) (a : Nat) : call T 11 [.ptr 0 0] [codesO B a] 0 = some ⟨.lst 1 ((grd B a).map bytS) (.id 60), [(0, codesO B (nx4 B a))], [60]⟩ := by
  have h0 := digI_len B a 0
  have h1 := digI_len B (nextA B a) 1
  have h2 := digI_len B (nextA B (nextA B a)) 2
  have s0 := s11 B hB a 0 (by omega) [] (by simp)
  have s1 := s11 B hB (nextA B a) 1 (by omega) (digI B a 0) (by omega)
  have s2 := s11 B hB (nextA B (nextA B a)) 2 (by omega) (digI B a 0 ++ digI B (nextA B a) 1) (by rw [List.length_append]; omega)
  have s3 := s11 B hB (nextA B (nextA B (nextA B a))) 3 (by omega) (digI B a 0 ++ digI B (nextA B a) 1 ++ digI B (nextA B (nextA B a)) 2) (by simp only [List.length_append]; omega)
  have s := s0.trans (s1.trans (s2.trans s3))
  have s5 : run T (.loop r11_7) ⟨[(0, .ptr 0 0), (3, .lst 1 ((grd B a).map bytS) (.id 103)), (4, .int .i64 (4 : Nat))], [(0, codesO B (nx4 B a))], [103]⟩ =
      some (.x 0, ⟨[(3, .lst 1 ((grd B a).map bytS) (.id 103))], [(0, codesO B (nx4 B a))], [103]⟩) := by
    rw [run_loop]
    have c4 : ((4 : Nat) : Int) = 4 := rfl
    simp only [r11_0, r11_1, r11_2, r11_3, r11_4, r11_5, r11_6, r11_8, F11, q11_7, q11, go_sem, Int.reduceToNat, Int.reduceLE, Int.reduceLT, Int.reduceEq, Int.reduceNe, Int.reduceNeg, Int.reduceAdd, Int.reduceSub, Int.reduceMul, Nat.reducePow, Nat.reduceDiv, Nat.reduceMod, Nat.reduceAdd, Nat.reduceSub, Nat.reduceMul, Nat.reduceLT, Nat.reduceLeDiff, Nat.reduceEqDiff, Nat.reduceBEq, reduceCtorEq, reduceIte, codesO, c4]
  have s6 := s.trans s5
  rw [call_code T_11]
  have c0 : ((0 : Nat) : Int) = 0 := rfl
  simp only [c0, codesO, List.map_nil] at s6
  simp only [r11_0, r11_1, r11_2, r11_3, r11_4, r11_5, r11_6, r11_8, F11, q11_7, q11, go_sem, Int.reduceToNat, Int.reduceLE, Int.reduceLT, Int.reduceEq, Int.reduceNe, Int.reduceNeg, Int.reduceAdd, Int.reduceSub, Int.reduceMul, Nat.reducePow, Nat.reduceDiv, Nat.reduceMod, Nat.reduceAdd, Nat.reduceSub, Nat.reduceMul, Nat.reduceLT, Nat.reduceLeDiff, Nat.reduceEqDiff, Nat.reduceBEq, reduceCtorEq, reduceIte, codesO, s6]
end Go.Proofs.Ytghggnfomlibjaa
