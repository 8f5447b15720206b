/-
  The law of lesser sweeps.
-/
import Derived.Test.YtghggnfomlibjaaM
set_option maxRecDepth 100000
set_option linter.unusedSimpArgs false
set_option linter.unusedVariables false
namespace Go.Proofs.Ytghggnfomlibjaa
open Go.Sy

theorem find_mem' : ∀ {L : List Lease} {x : Lease}, Sorted (L.map Lease.m) → x ∈ L → findL L x.m = some x
  | y :: L, x, h, hx => by
    simp only [List.map_cons, Sorted, List.pairwise_cons] at h
    unfold findL
    rw [List.find?_cons]
    rcases List.mem_cons.1 hx with rfl | hx
    · simp
    · have := h.1 _ (List.mem_map_of_mem hx)
      have e : decide (y.m = x.m) = false := by rw [decide_eq_false_iff_not]; omega
      rw [e]
      exact find_mem' h.2 hx
theorem subset_mono {a b c : List (List UInt8)} (h : subsetB a b = true) (hbc : ∀ x ∈ b, x ∈ c) : subsetB a c = true := by
  unfold subsetB at h ⊢
  rw [List.all_eq_true] at h ⊢
  intro x hx
  obtain ⟨y, hy, hxy⟩ := List.any_eq_true.1 (h x hx)
  exact List.any_eq_true.2 ⟨y, hbc y hy, hxy⟩
theorem keep_mono {n1 n2 : Int} {f1 f2 : List (List UInt8)} (h : n1 ≤ n2) (hf : ∀ x ∈ f2, x ∈ f1) {x : Lease} (hk : keepR n2 f2 x = true) : keepR n1 f1 x = true := by
  unfold keepR at hk ⊢
  simp only [Bool.and_eq_true, decide_eq_true_eq] at hk ⊢
  exact ⟨by omega, subset_mono hk.2 hf⟩
def st7 (l a b : Ls) (n : Int) (B : List UInt8) (at' : Nat) (i : Nat) : CSt :=
  ⟨[(3, .int .i64 n), (11, .ptr 111 0), (15, .ptr 115 0), (16, .ptr 116 0), (17, .int .i64 i)], [(111, .rc [.lst 3 (l.ls.map Lease.sv) .no, .lst 3 (l.hs.map Hold.sv) .no]), (115, .rc [.lst 3 (a.ls.map Lease.sv) .no, .lst 3 (a.hs.map Hold.sv) .no]), (116, .rc [.lst 3 (b.ls.map Lease.sv) .no, .lst 3 (b.hs.map Hold.sv) .no]), (37100, .rc [.byt B .no, .int .i64 at'])], [38060]⟩
theorem l7 (l a b : Ls) (hl : WF l) (ha : WF a) (hb : b.ls.length ≤ 4) (n : Int) (hn : ∀ x ∈ b.ls, x ∈ a.ls ∧ x ∈ l.ls ∧ n < x.u) (B : List UInt8) (at' : Nat) : ∀ (f i : Nat), b.ls.length - i = f → i ≤ b.ls.length →
    run T (.loop r7_17) (st7 l a b n B at' i) = some (.x 0, ⟨[(11, .ptr 111 0), (15, .ptr 115 0)], (st7 l a b n B at' i).ob, (st7 l a b n B at' i).tk⟩) := by
  have hl1 := hl.len
  have ha1 := ha.len
  intro f
  induction f with
  | zero =>
    intro i h0 h1
    have e : i = b.ls.length := by omega
    subst e
    rw [run_loop]
    simp only [r7_0, r7_1, r7_2, r7_3, r7_4, r7_5, r7_6, r7_7, r7_8, r7_9, r7_10, r7_11, r7_12, r7_13, r7_14, r7_15, r7_16, r7_18, F7, q7_17, q7, go_sem, Int.reduceToNat, Int.reduceLE, Int.reduceLT, Int.reduceEq, Int.reduceNe, Int.reduceNeg, Int.reduceAdd, Int.reduceSub, Int.reduceMul, Nat.reducePow, Nat.reduceDiv, Nat.reduceMod, Nat.reduceAdd, Nat.reduceSub, Nat.reduceMul, Nat.reduceLT, Nat.reduceLeDiff, Nat.reduceEqDiff, Nat.reduceBEq, reduceCtorEq, reduceIte, st7]
  | succ f ih =>
    intro i h0 h1
    have hi : i < b.ls.length := by omega
    have e3 := wsucc i (by omega)
    have h := ih (i + 1) (by omega) (by omega)
    have e2 := getD_map Lease.sv b.ls i hi
    have hx := hn (b.ls.getD i default) (by rw [List.getD_eq_getElem?_getD, List.getElem?_eq_getElem hi]; exact List.getElem_mem hi)
    generalize b.ls.getD i default = x at e2 hx
    obtain ⟨x1, x2, x3⟩ := hx
    have g1 := f28 a x.m (by omega)
    have g2 := f24 l x.m n hl.s1 (by omega)
    rw [adm_eq _ hl.s1] at g2
    have g3 : admR l.ls x.m n = true := by
      unfold admR
      rw [find_mem' hl.s1 x2]
      simpa using x3
    rw [g3] at g2
    rw [find_mem' ha.s1 x1] at g1
    simp only [lsv, go_sem, Int.reduceToNat, Int.reduceLE, Int.reduceLT, Int.reduceEq, Int.reduceNe, Int.reduceNeg, Int.reduceAdd, Int.reduceSub, Int.reduceMul, Nat.reducePow, Nat.reduceDiv, Nat.reduceMod, Nat.reduceAdd, Nat.reduceSub, Nat.reduceMul, Nat.reduceLT, Nat.reduceLeDiff, Nat.reduceEqDiff, Nat.reduceBEq, reduceCtorEq, reduceIte, Lease.sv, gsSV] at g1 g2
    simp only [st7] at h ⊢
    rw [run_loop]
    simp only [r7_0, r7_1, r7_2, r7_3, r7_4, r7_5, r7_6, r7_7, r7_8, r7_9, r7_10, r7_11, r7_12, r7_13, r7_14, r7_15, r7_16, r7_18, F7, q7_17, q7, go_sem, Int.reduceToNat, Int.reduceLE, Int.reduceLT, Int.reduceEq, Int.reduceNe, Int.reduceNeg, Int.reduceAdd, Int.reduceSub, Int.reduceMul, Nat.reducePow, Nat.reduceDiv, Nat.reduceMod, Nat.reduceAdd, Nat.reduceSub, Nat.reduceMul, Nat.reduceLT, Nat.reduceLeDiff, Nat.reduceEqDiff, Nat.reduceBEq, reduceCtorEq, reduceIte, hi, e2, e3, g1, g2, S_24, S_28, h, Lease.sv, gsSV]
    simp (config := {decide := true}) only [gd_pos]
    simp only [r7_0, r7_1, r7_2, r7_3, r7_4, r7_5, r7_6, r7_7, r7_8, r7_9, r7_10, r7_11, r7_12, r7_13, r7_14, r7_15, r7_16, r7_18, F7, q7_17, q7, go_sem, Int.reduceToNat, Int.reduceLE, Int.reduceLT, Int.reduceEq, Int.reduceNe, Int.reduceNeg, Int.reduceAdd, Int.reduceSub, Int.reduceMul, Nat.reducePow, Nat.reduceDiv, Nat.reduceMod, Nat.reduceAdd, Nat.reduceSub, Nat.reduceMul, Nat.reduceLT, Nat.reduceLeDiff, Nat.reduceEqDiff, Nat.reduceBEq, reduceCtorEq, reduceIte, hi, e2, e3, g1, g2, S_24, S_28, h, Lease.sv, gsSV]
theorem filter_idem (p : Lease → Bool) (L : List Lease) : (L.filter p).filter p = L.filter p := by
  rw [List.filter_filter]; congr 1; funext x; simp
theorem f7 (c m : List UInt8) (k n d : Int) (hk : IntKind.i64.has k) (hn : IntKind.i64.has n) (hd : IntKind.i64.has d) : call T 7 [.byt c .no, .byt m .no, .int .i64 k, .int .i64 n, .int .i64 d] [] 0 = some ⟨.bool true, [], []⟩ := by
  obtain ⟨l, now, hl, h0, h1, h9⟩ := f9 c
  have hl1 := hl.len
  have hl2 := hl.len2
  have hk' : -9223372036854775808 ≤ k ∧ k ≤ 9223372036854775807 := hk
  have hn' : -9223372036854775808 ≤ n ∧ n ≤ 9223372036854775807 := hn
  have hd' : -9223372036854775808 ≤ d ∧ d ≤ 9223372036854775807 := hd
  have g1 := f12 m 10
  have c10 : ((10 : Nat) : Int) = 10 := rfl
  rw [c10] at g1
  have hB : (m.take 10).length ≤ 10 := by simp; omega
  have g2 := f11 (m.take 10) (by omega) 0
  have hg := grd_ok (m.take 10) 0
  have hgl := grd_len (m.take 10) 0
  generalize hG : grd (m.take 10) 0 = G at g2 hg hgl
  have r1 := modI_range k 60 (by omega)
  have r2 := modI_range n 30 (by omega)
  have r3 := modI_range d (G.length + 1) (by omega)
  have g4 := f10 k 60 hk'.1 hk'.2 (by omega)
  have g5 := f10 n 30 hn'.1 hn'.2 (by omega)
  have g6 := f10 d (G.length + 1) hd'.1 hd'.2 (by omega)
  generalize hq : modI d (G.length + 1) = q at g6 r3
  have e1 : IntKind.i64.wrap (now + modI k 60) = now + modI k 60 := w64 (by omega) (by omega)
  generalize hn1 : now + modI k 60 = n1 at e1
  have e2 : IntKind.i64.wrap (n1 + modI n 30) = n1 + modI n 30 := w64 (by omega) (by omega)
  generalize hn2 : n1 + modI n 30 = n2 at e2
  have e3 : IntKind.i64.wrap ((G.length : Int) + 1) = (G.length : Int) + 1 := w64 (by omega) (by omega)
  have hle : n1 ≤ n2 := by omega
  have hsub : ∀ x ∈ G.take q.toNat, x ∈ G := fun x hx => List.mem_of_mem_take hx
  have ga := f26 l n1 G hl.ok hg.1
  have gb := f26 l n2 (G.take q.toNat) hl.ok (by simp; omega)
  rw [sweep_eq] at ga gb
  have wa := filter_wf l hl (keepR n1 G)
  have wb := filter_wf l hl (keepR n2 (G.take q.toNat))
  have hb4 := wb.len
  have ha2 := wa.len2
  have gc := f26 ⟨l.ls.filter (keepR n1 G), l.hs⟩ n1 G wa.ok hg.1
  rw [sweep_eq, filter_idem] at gc
  have gd' := f15 ⟨l.ls.filter (keepR n1 G), l.hs⟩ ⟨l.ls.filter (keepR n1 G), l.hs⟩ wa.ok (by omega)
  simp only [decide_true] at gd'
  have gl := l7 l ⟨l.ls.filter (keepR n1 G), l.hs⟩ ⟨l.ls.filter (keepR n2 (G.take q.toNat)), l.hs⟩ hl wa hb4 n2 (fun x hx => by
    obtain ⟨h1, h2⟩ := List.mem_filter.1 hx
    refine ⟨List.mem_filter.2 ⟨h1, keep_mono hle hsub h2⟩, h1, ?_⟩
    unfold keepR at h2
    simp only [Bool.and_eq_true, decide_eq_true_eq] at h2
    exact h2.1) (m.take 10) (nx4 (m.take 10) 0) _ 0 rfl (by omega)
  have hfl : (List.filter (keepR n1 G) l.ls).length ≤ l.ls.length := List.length_filter_le _ _
  have r4 : 0 ≤ q ∧ q ≤ (G.length : Int) := by omega
  have r5 : q.toNat ≤ G.length := by omega
  simp only [codesO, Int.natCast_zero, st7, lsv, List.map_take] at g1 g2 ga gb gc gd' gl h9
  rw [call_code T_7]
  simp only [r7_0, r7_1, r7_2, r7_3, r7_4, r7_5, r7_6, r7_7, r7_8, r7_9, r7_10, r7_11, r7_12, r7_13, r7_14, r7_15, r7_16, r7_18, F7, q7_17, q7, go_sem, Int.reduceToNat, Int.reduceLE, Int.reduceLT, Int.reduceEq, Int.reduceNe, Int.reduceNeg, Int.reduceAdd, Int.reduceSub, Int.reduceMul, Nat.reducePow, Nat.reduceDiv, Nat.reduceMod, Nat.reduceAdd, Nat.reduceSub, Nat.reduceMul, Nat.reduceLT, Nat.reduceLeDiff, Nat.reduceEqDiff, Nat.reduceBEq, reduceCtorEq, reduceIte, f8, S_8, h9, S_9, g1, S_12, g2, S_11, g4, g5, g6, S_10, e1, e2, e3, hn1, hn2, r4, r5, ga, gb, S_26]
  simp (config := {decide := true}) only [gd_pos]
  simp only [r7_0, r7_1, r7_2, r7_3, r7_4, r7_5, r7_6, r7_7, r7_8, r7_9, r7_10, r7_11, r7_12, r7_13, r7_14, r7_15, r7_16, r7_18, F7, q7_17, q7, go_sem, Int.reduceToNat, Int.reduceLE, Int.reduceLT, Int.reduceEq, Int.reduceNe, Int.reduceNeg, Int.reduceAdd, Int.reduceSub, Int.reduceMul, Nat.reducePow, Nat.reduceDiv, Nat.reduceMod, Nat.reduceAdd, Nat.reduceSub, Nat.reduceMul, Nat.reduceLT, Nat.reduceLeDiff, Nat.reduceEqDiff, Nat.reduceBEq, reduceCtorEq, reduceIte, ga, gb, gc, gd', S_26, S_15, gl, hfl]
end Go.Proofs.Ytghggnfomlibjaa
