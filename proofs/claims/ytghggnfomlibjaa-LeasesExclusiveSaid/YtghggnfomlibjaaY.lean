/-
  The law of exclusion, whole.
-/
import Derived.Test.YtghggnfomlibjaaX
set_option maxRecDepth 100000
set_option linter.unusedSimpArgs false
set_option linter.unusedVariables false
namespace Go.Proofs.Ytghggnfomlibjaa
open Go.Sy

theorem grant_mem {l : Ls} {m now : Int} {g : List (List UInt8)} (h0 : (grantR l m now g).2 = 0) : (∀ x ∈ (grantR l m now g).1.ls, x ∈ l.ls ∨ x.m = m) ∧ (grantR l m now g).1.hs = l.hs ∧ (l.hs.map Hold.m).contains m = false := by
  have hi : ∀ j x, x ∈ itemG l.ls ⟨m, now + 64, g⟩ j → x ∈ l.ls ∨ x.m = m := by
    intro j x hx
    unfold itemG at hx
    split at hx
    · rw [List.mem_singleton.1 hx]; exact .inr rfl
    · cases hf : findL l.ls j with
      | none => rw [hf] at hx; cases hx
      | some y =>
        rw [hf] at hx
        simp only [Option.toList_some, List.mem_singleton] at hx
        subst hx
        exact .inl (List.mem_of_find?_eq_some hf)
  unfold grantR at h0 ⊢
  split
  · rename_i h1; rw [if_pos h1] at h0; cases h0
  · rename_i h1; rw [if_neg h1] at h0
    split
    · rename_i h2; rw [if_pos h2] at h0; cases h0
    · rename_i h2; rw [if_neg h2] at h0
      split
      · rename_i h3; rw [if_pos h3] at h0; cases h0
      · rename_i h3
        refine ⟨fun x hx => ?_, rfl, by simpa using h3⟩
        simp only [List.mem_append] at hx
        rcases hx with ((hx | hx) | hx) | hx <;> exact hi _ x hx
theorem grant_err {l : Ls} {m now : Int} {g : List (List UInt8)} (hm : 1 ≤ m ∧ m ≤ 4) (hn : 0 ≤ now ∧ now ≤ 1600) : (grantR l m now g).2 = if (l.hs.map Hold.m).contains m = true then 48 else 0 := by
  unfold grantR
  rw [if_neg (by omega), if_neg (by omega)]
  split <;> rfl
theorem set_get (F : List Bool) (i j : Nat) (b : Bool) (h : i < F.length) : (F.set i b).getD j false = if i = j then b else F.getD j false := by
  rw [List.getD_eq_getElem?_getD, List.getD_eq_getElem?_getD, List.getElem?_set]
  split
  · rename_i e; subst e; simp [h]
  · rfl
theorem fit_grant {l : Ls} {F : List Bool} (hF : Fit l F) {m : Nat} {now : Int} (hm : m < 5) (h0 : (grantR l m now []).2 = 0) : Fit (grantR l m now []).1 (F.set m true) := by
  obtain ⟨h1, h2, h3⟩ := grant_mem h0
  refine ⟨grant_wf l hF.wf _ _ _ ⟨by simp, by simp⟩ h0, by simp [hF.five], fun x hx => ?_, fun x hx h hh => ?_⟩
  · rw [set_get _ _ _ _ (by rw [hF.five]; exact hm)]
    split
    · rfl
    · rename_i hne
      rcases h1 x hx with h | h
      · exact hF.free x h
      · exfalso; apply hne; rw [h]; simp
  · rw [h2] at hh
    rcases h1 x hx with h4 | h4
    · exact hF.apart x h4 h hh
    · rw [h4]
      intro e
      rw [Bool.eq_false_iff, Ne, List.contains_iff_mem] at h3
      exact h3 (by rw [e]; exact List.mem_map_of_mem hh)
theorem fit_hold {l : Ls} {F : List Bool} (hF : Fit l F) {m : Nat} {now : Int} (hm : m < 5) : Fit (holdR l m 47 now) (F.set m false) := by
  have hw := hold_wf l hF.wf m 47 now
  refine ⟨hw, by simp [hF.five], ?_, ?_⟩
  · intro x hx
    have hx2 : x ∈ l.ls ∧ x.m ≠ (m : Int) := by
      unfold holdR at hx
      split at hx
      · rename_i hc
        refine ⟨hx, ?_⟩
        have hr := hF.wf.r1 x hx
        rcases hc with hc | hc | hc
        · omega
        · omega
        · rw [List.contains_iff_mem] at hc
          obtain ⟨h, hh, he⟩ := List.mem_map.1 hc
          rw [← he]; exact hF.apart x hx h hh
      · have := List.mem_filter.1 hx
        exact ⟨this.1, by simpa using this.2⟩
    rw [set_get _ _ _ _ (by rw [hF.five]; exact hm), if_neg]
    · exact hF.free x hx2.1
    · intro e
      have := hF.wf.r1 x hx2.1
      apply hx2.2; rw [e]; omega
  · intro x hx h hh
    unfold holdR at hx hh
    split at hx
    · rename_i hc
      rw [if_pos hc] at hh
      exact hF.apart x hx h hh
    · rename_i hc
      rw [if_neg hc] at hh
      have hx2 := List.mem_filter.1 hx
      have hne : x.m ≠ (m : Int) := by simpa using hx2.2
      rcases List.mem_append.1 hh with h1 | h1
      · exact hF.apart x hx2.1 h (List.mem_of_mem_take h1)
      · rcases List.mem_cons.1 h1 with rfl | h1
        · exact hne
        · exact hF.apart x hx2.1 h (List.mem_of_mem_drop h1)
theorem fit_rel {l : Ls} {F : List Bool} (hF : Fit l F) {m : Int} (h0 : (relR l m).2 = 0) : Fit (relR l m).1 F := by
  have hw := rel_wf l hF.wf m h0
  have e : (relR l m).1.ls = l.ls ∧ ∀ h ∈ (relR l m).1.hs, h ∈ l.hs := by
    unfold relR at h0 ⊢
    split
    · rename_i h1; rw [if_pos h1] at h0; cases h0
    · rename_i h1; rw [if_neg h1] at h0
      split
      · rename_i h2; rw [if_pos h2] at h0; cases h0
      · exact ⟨rfl, fun h hh => (List.mem_filter.1 hh).1⟩
  exact ⟨hw, hF.five, fun x hx => hF.free x (by rw [← e.1]; exact hx), fun x hx h hh => hF.apart x (by rw [← e.1]; exact hx) h (e.2 h hh)⟩
set_option maxHeartbeats 4000000 in
theorem s5 (B : List UInt8) (hB : B.length ≤ 80) (a : Nat) (ha : a < B.length) (l : Ls) (F : List Bool) (hF : Fit l F) (now : Int) (h0 : 0 ≤ now) (h1 : now ≤ 20 * a) (t : Tok) (ht : t = .no ∨ t = .clip) :
    ∃ (t' : Tok) (l' : Ls) (F' : List Bool) (now' : Int) (a' : Nat), (t' = .no ∨ t' = .clip) ∧ Fit l' F' ∧ 0 ≤ now' ∧ now' ≤ 20 * (a' : Int) ∧ a < a' ∧ a' ≤ B.length ∧
      run T (.loop r5_42) (st5 t l F now [(23100, codesO B a)] []) = run T (.loop r5_42) (st5 t' l' F' now' [(23100, codesO B a')] []) := by
  have ea := nextA_lt B a ha
  have hv1 := nextV_lt B a 20 (by omega)
  have hv2 := nextV_lt B (a + 1) 4 (by omega)
  have hl := hF.wf
  have hl1 := hl.len
  have hl2 := hl.len2
  have g1 := f22 B a
  have g2 := f23 B a 20 (by omega) (by omega)
  have g3 := f23 B (a + 1) 4 (by omega) (by omega)
  have g4 := f23 B (nextA B (a + 1)) 5 (by omega) (by omega)
  rw [ea] at g2
  have c20 : ((20 : Nat) : Int) = 20 := rfl
  have c4 : ((4 : Nat) : Int) = 4 := rfl
  have c5 : ((5 : Nat) : Int) = 5 := rfl
  rw [c20] at g2
  rw [c4] at g3
  rw [c5] at g4
  have e1 : IntKind.i64.wrap (now + (nextV B a 20 : Nat)) = now + (nextV B a 20 : Nat) := w64 (by omega) (by omega)
  have e2 : IntKind.i64.wrap (1 + ((nextV B (a + 1) 4 : Nat) : Int)) = ((1 + nextV B (a + 1) 4 : Nat) : Int) := by rw [w64 (by omega) (by omega)]; omega
  simp only [codesO] at g1 g2 g3 g4
  generalize hk : nextV B (nextA B (a + 1)) 5 = k at g4
  have hk6 : k < 5 := by rw [← hk]; exact nextV_lt _ _ _ (by omega)
  have hA1 := nextA_le B (a + 1)
  have hA2 := nextA_le B (nextA B (a + 1))
  generalize hA : nextA B (nextA B (a + 1)) = A at g4 hA2
  generalize hm : 1 + nextV B (a + 1) 4 = m at e2
  generalize hw : now + (nextV B a 20 : Nat) = w at e1
  have hAB : A ≤ B.length := hA2.2.2 (hA1.2.2 (by omega))
  have hw0 : 0 ≤ w := by omega
  have hm1 : 1 ≤ (m : Int) ∧ (m : Int) ≤ 4 := by omega
  have hm2 : m < 5 := by omega
  have hm3 : (m : Int) < 5 := by omega
  have hm4 : m < F.length := by rw [hF.five]; exact hm2
  have hm5 : (0 : Int) ≤ m := by omega
  have e4 := getD_fB F m hm4
  have g7 := f13 l hl m w []
  rw [grant_eq l hl] at g7
  have g8 := f18 l hl m 47 w
  rw [hold_eq l hl] at g8
  have g9 := f16 l m hl.s2 (by omega)
  rw [rel_eq l hl] at g9
  have g10 := f20 l m hl.s2 (by omega)
  rw [has_contains _ _ hl.s2] at g10
  have ge := grant_err (l := l) (m := m) (now := w) (g := []) hm1 (by omega)
  have fg := fit_grant hF (now := w) hm2
  have fh := fit_hold hF (now := w) hm2
  have fr := fit_rel hF (m := m)
  simp only [lsv, errV, gsSV, List.map_nil] at g7 g8 g9 g10
  have k0 : ((0 : Nat) : Int) = 0 := rfl
  have k1 : ((1 : Nat) : Int) = 1 := rfl
  have k2 : ((2 : Nat) : Int) = 2 := rfl
  have k3 : ((3 : Nat) : Int) = 3 := rfl
  have k4 : ((4 : Nat) : Int) = 4 := rfl
  have inner : ∀ (X : List (Nat × SObj)) (t' : Tok) (l' : Ls) (F' : List Bool), (t' = .no ∨ t' = .clip) → Fit l' F' → 
      (run T (.loop r5_29) (st5 t' l' F' w X [(16, .int .i64 1)]) = some (.x 3, st5 t' l' F' w X [])) ∧
      (run T (.loop r5_35) (st5 t' l' F' w X [(17, .int .i64 1)]) = some (.x 5, st5 t' l' F' w X [])) ∧
      (run T (.loop r5_41) (st5 t' l' F' w X [(18, .int .i64 1)]) = some (.x 7, st5 t' l' F' w X [])) :=
    fun X t' l' F' h1 h2 => ⟨l5a t' h1 l' F' h2 w X 4 1 (by omega) (by omega), l5b t' h1 l' F' h2 w X _ 1 rfl (by omega), l5c t' h1 l' F' h2 w X _ 1 rfl (by omega)⟩
  have cA : codesO B A = .rc [.byt B .no, .int .i64 A] := rfl
  have ca : codesO B a = .rc [.byt B .no, .int .i64 a] := rfl
  simp only [st5, List.cons_append, List.nil_append, List.append_nil, ca, cA] at inner ⊢
  rw [run_loop]
  have hks : k = 0 ∨ k = 1 ∨ k = 2 ∨ k = 3 ∨ k = 4 := by omega
  rcases hks with rfl | rfl | rfl | rfl | rfl
  · cases hc : (l.hs.map Hold.m).contains (m : Int) with
    | true =>
      rw [hc] at g10
      rw [hc, if_pos rfl] at ge
      rw [ge] at g7
      obtain ⟨i1, i2, i3⟩ := inner [(112, .rc [.lst 3 ((grantR l m w []).1.ls.map Lease.sv) .no, .lst 3 ((grantR l m w []).1.hs.map Hold.sv) .no]), (23100, .rc [.byt B .no, .int .i64 A])] t l F ht hF
      refine ⟨t, l, F, w, A, ht, hF, hw0, by omega, by omega, hAB, ?_⟩
      rcases ht with rfl | rfl <;> simp only [r5_0, r5_1, r5_2, r5_3, r5_4, r5_5, r5_6, r5_7, r5_8, r5_9, r5_10, r5_11, r5_12, r5_13, r5_14, r5_15, r5_16, r5_17, r5_18, r5_19, r5_20, r5_21, r5_22, r5_23, r5_24, r5_25, r5_26, r5_27, r5_28, r5_30, r5_31, r5_32, r5_33, r5_34, r5_36, r5_37, r5_38, r5_39, r5_40, r5_43, F5, q5_29, q5_35, q5_41, q5_42, q5, go_sem, Int.reduceToNat, Int.reduceLE, Int.reduceLT, Int.reduceEq, Int.reduceNe, Int.reduceNeg, Int.reduceAdd, Int.reduceSub, Int.reduceMul, Nat.reducePow, Nat.reduceDiv, Nat.reduceMod, Nat.reduceAdd, Nat.reduceSub, Nat.reduceMul, Nat.reduceLT, Nat.reduceLeDiff, Nat.reduceEqDiff, Nat.reduceBEq, reduceCtorEq, reduceIte, codesO, g1, g2, g3, g4, e1, e2, e4, ha, hm, hw, hm2, hm3, hm4, hm5, hF.five, set_fB, S_22, S_23, k0, k1, k2, k3, k4, List.length_map, g7, g10, S_13, S_20, i1, i2, i3]
    | false =>
      rw [hc] at g10
      rw [hc, if_neg (by simp)] at ge
      rw [ge] at g7
      obtain ⟨i1, i2, i3⟩ := inner [(112, .rc [.lst 3 ((grantR l m w []).1.ls.map Lease.sv) .no, .lst 3 ((grantR l m w []).1.hs.map Hold.sv) .no]), (23100, .rc [.byt B .no, .int .i64 A])] .no _ _ (.inl rfl) (fg ge)
      refine ⟨.no, _, _, w, A, .inl rfl, fg ge, hw0, by omega, by omega, hAB, ?_⟩
      rcases ht with rfl | rfl <;> simp only [r5_0, r5_1, r5_2, r5_3, r5_4, r5_5, r5_6, r5_7, r5_8, r5_9, r5_10, r5_11, r5_12, r5_13, r5_14, r5_15, r5_16, r5_17, r5_18, r5_19, r5_20, r5_21, r5_22, r5_23, r5_24, r5_25, r5_26, r5_27, r5_28, r5_30, r5_31, r5_32, r5_33, r5_34, r5_36, r5_37, r5_38, r5_39, r5_40, r5_43, F5, q5_29, q5_35, q5_41, q5_42, q5, go_sem, Int.reduceToNat, Int.reduceLE, Int.reduceLT, Int.reduceEq, Int.reduceNe, Int.reduceNeg, Int.reduceAdd, Int.reduceSub, Int.reduceMul, Nat.reducePow, Nat.reduceDiv, Nat.reduceMod, Nat.reduceAdd, Nat.reduceSub, Nat.reduceMul, Nat.reduceLT, Nat.reduceLeDiff, Nat.reduceEqDiff, Nat.reduceBEq, reduceCtorEq, reduceIte, codesO, g1, g2, g3, g4, e1, e2, e4, ha, hm, hw, hm2, hm3, hm4, hm5, hF.five, set_fB, S_22, S_23, k0, k1, k2, k3, k4, List.length_map, g7, g10, S_13, S_20, i1, i2, i3]
  · cases hc : (l.hs.map Hold.m).contains (m : Int) with
    | true =>
      rw [hc] at g10
      rw [hc, if_pos rfl] at ge
      rw [ge] at g7
      obtain ⟨i1, i2, i3⟩ := inner [(112, .rc [.lst 3 ((grantR l m w []).1.ls.map Lease.sv) .no, .lst 3 ((grantR l m w []).1.hs.map Hold.sv) .no]), (23100, .rc [.byt B .no, .int .i64 A])] t l F ht hF
      refine ⟨t, l, F, w, A, ht, hF, hw0, by omega, by omega, hAB, ?_⟩
      rcases ht with rfl | rfl <;> simp only [r5_0, r5_1, r5_2, r5_3, r5_4, r5_5, r5_6, r5_7, r5_8, r5_9, r5_10, r5_11, r5_12, r5_13, r5_14, r5_15, r5_16, r5_17, r5_18, r5_19, r5_20, r5_21, r5_22, r5_23, r5_24, r5_25, r5_26, r5_27, r5_28, r5_30, r5_31, r5_32, r5_33, r5_34, r5_36, r5_37, r5_38, r5_39, r5_40, r5_43, F5, q5_29, q5_35, q5_41, q5_42, q5, go_sem, Int.reduceToNat, Int.reduceLE, Int.reduceLT, Int.reduceEq, Int.reduceNe, Int.reduceNeg, Int.reduceAdd, Int.reduceSub, Int.reduceMul, Nat.reducePow, Nat.reduceDiv, Nat.reduceMod, Nat.reduceAdd, Nat.reduceSub, Nat.reduceMul, Nat.reduceLT, Nat.reduceLeDiff, Nat.reduceEqDiff, Nat.reduceBEq, reduceCtorEq, reduceIte, codesO, g1, g2, g3, g4, e1, e2, e4, ha, hm, hw, hm2, hm3, hm4, hm5, hF.five, set_fB, S_22, S_23, k0, k1, k2, k3, k4, List.length_map, g7, g10, S_13, S_20, i1, i2, i3]
    | false =>
      rw [hc] at g10
      rw [hc, if_neg (by simp)] at ge
      rw [ge] at g7
      obtain ⟨i1, i2, i3⟩ := inner [(112, .rc [.lst 3 ((grantR l m w []).1.ls.map Lease.sv) .no, .lst 3 ((grantR l m w []).1.hs.map Hold.sv) .no]), (23100, .rc [.byt B .no, .int .i64 A])] .no _ _ (.inl rfl) (fg ge)
      refine ⟨.no, _, _, w, A, .inl rfl, fg ge, hw0, by omega, by omega, hAB, ?_⟩
      rcases ht with rfl | rfl <;> simp only [r5_0, r5_1, r5_2, r5_3, r5_4, r5_5, r5_6, r5_7, r5_8, r5_9, r5_10, r5_11, r5_12, r5_13, r5_14, r5_15, r5_16, r5_17, r5_18, r5_19, r5_20, r5_21, r5_22, r5_23, r5_24, r5_25, r5_26, r5_27, r5_28, r5_30, r5_31, r5_32, r5_33, r5_34, r5_36, r5_37, r5_38, r5_39, r5_40, r5_43, F5, q5_29, q5_35, q5_41, q5_42, q5, go_sem, Int.reduceToNat, Int.reduceLE, Int.reduceLT, Int.reduceEq, Int.reduceNe, Int.reduceNeg, Int.reduceAdd, Int.reduceSub, Int.reduceMul, Nat.reducePow, Nat.reduceDiv, Nat.reduceMod, Nat.reduceAdd, Nat.reduceSub, Nat.reduceMul, Nat.reduceLT, Nat.reduceLeDiff, Nat.reduceEqDiff, Nat.reduceBEq, reduceCtorEq, reduceIte, codesO, g1, g2, g3, g4, e1, e2, e4, ha, hm, hw, hm2, hm3, hm4, hm5, hF.five, set_fB, S_22, S_23, k0, k1, k2, k3, k4, List.length_map, g7, g10, S_13, S_20, i1, i2, i3]
  · cases hc : (l.hs.map Hold.m).contains (m : Int) with
    | true =>
      rw [hc] at g10
      rw [hc, if_pos rfl] at ge
      rw [ge] at g7
      obtain ⟨i1, i2, i3⟩ := inner [(112, .rc [.lst 3 ((grantR l m w []).1.ls.map Lease.sv) .no, .lst 3 ((grantR l m w []).1.hs.map Hold.sv) .no]), (23100, .rc [.byt B .no, .int .i64 A])] t l F ht hF
      refine ⟨t, l, F, w, A, ht, hF, hw0, by omega, by omega, hAB, ?_⟩
      rcases ht with rfl | rfl <;> simp only [r5_0, r5_1, r5_2, r5_3, r5_4, r5_5, r5_6, r5_7, r5_8, r5_9, r5_10, r5_11, r5_12, r5_13, r5_14, r5_15, r5_16, r5_17, r5_18, r5_19, r5_20, r5_21, r5_22, r5_23, r5_24, r5_25, r5_26, r5_27, r5_28, r5_30, r5_31, r5_32, r5_33, r5_34, r5_36, r5_37, r5_38, r5_39, r5_40, r5_43, F5, q5_29, q5_35, q5_41, q5_42, q5, go_sem, Int.reduceToNat, Int.reduceLE, Int.reduceLT, Int.reduceEq, Int.reduceNe, Int.reduceNeg, Int.reduceAdd, Int.reduceSub, Int.reduceMul, Nat.reducePow, Nat.reduceDiv, Nat.reduceMod, Nat.reduceAdd, Nat.reduceSub, Nat.reduceMul, Nat.reduceLT, Nat.reduceLeDiff, Nat.reduceEqDiff, Nat.reduceBEq, reduceCtorEq, reduceIte, codesO, g1, g2, g3, g4, e1, e2, e4, ha, hm, hw, hm2, hm3, hm4, hm5, hF.five, set_fB, S_22, S_23, k0, k1, k2, k3, k4, List.length_map, g7, g10, S_13, S_20, i1, i2, i3]
    | false =>
      rw [hc] at g10
      rw [hc, if_neg (by simp)] at ge
      rw [ge] at g7
      obtain ⟨i1, i2, i3⟩ := inner [(112, .rc [.lst 3 ((grantR l m w []).1.ls.map Lease.sv) .no, .lst 3 ((grantR l m w []).1.hs.map Hold.sv) .no]), (23100, .rc [.byt B .no, .int .i64 A])] .no _ _ (.inl rfl) (fg ge)
      refine ⟨.no, _, _, w, A, .inl rfl, fg ge, hw0, by omega, by omega, hAB, ?_⟩
      rcases ht with rfl | rfl <;> simp only [r5_0, r5_1, r5_2, r5_3, r5_4, r5_5, r5_6, r5_7, r5_8, r5_9, r5_10, r5_11, r5_12, r5_13, r5_14, r5_15, r5_16, r5_17, r5_18, r5_19, r5_20, r5_21, r5_22, r5_23, r5_24, r5_25, r5_26, r5_27, r5_28, r5_30, r5_31, r5_32, r5_33, r5_34, r5_36, r5_37, r5_38, r5_39, r5_40, r5_43, F5, q5_29, q5_35, q5_41, q5_42, q5, go_sem, Int.reduceToNat, Int.reduceLE, Int.reduceLT, Int.reduceEq, Int.reduceNe, Int.reduceNeg, Int.reduceAdd, Int.reduceSub, Int.reduceMul, Nat.reducePow, Nat.reduceDiv, Nat.reduceMod, Nat.reduceAdd, Nat.reduceSub, Nat.reduceMul, Nat.reduceLT, Nat.reduceLeDiff, Nat.reduceEqDiff, Nat.reduceBEq, reduceCtorEq, reduceIte, codesO, g1, g2, g3, g4, e1, e2, e4, ha, hm, hw, hm2, hm3, hm4, hm5, hF.five, set_fB, S_22, S_23, k0, k1, k2, k3, k4, List.length_map, g7, g10, S_13, S_20, i1, i2, i3]
  · obtain ⟨i1, i2, i3⟩ := inner [(23100, .rc [.byt B .no, .int .i64 A])] .no _ _ (.inl rfl) fh
    refine ⟨.no, _, _, w, A, .inl rfl, fh, hw0, by omega, by omega, hAB, ?_⟩
    rcases ht with rfl | rfl <;> simp only [r5_0, r5_1, r5_2, r5_3, r5_4, r5_5, r5_6, r5_7, r5_8, r5_9, r5_10, r5_11, r5_12, r5_13, r5_14, r5_15, r5_16, r5_17, r5_18, r5_19, r5_20, r5_21, r5_22, r5_23, r5_24, r5_25, r5_26, r5_27, r5_28, r5_30, r5_31, r5_32, r5_33, r5_34, r5_36, r5_37, r5_38, r5_39, r5_40, r5_43, F5, q5_29, q5_35, q5_41, q5_42, q5, go_sem, Int.reduceToNat, Int.reduceLE, Int.reduceLT, Int.reduceEq, Int.reduceNe, Int.reduceNeg, Int.reduceAdd, Int.reduceSub, Int.reduceMul, Nat.reducePow, Nat.reduceDiv, Nat.reduceMod, Nat.reduceAdd, Nat.reduceSub, Nat.reduceMul, Nat.reduceLT, Nat.reduceLeDiff, Nat.reduceEqDiff, Nat.reduceBEq, reduceCtorEq, reduceIte, codesO, g1, g2, g3, g4, e1, e2, e4, ha, hm, hw, hm2, hm3, hm4, hm5, hF.five, set_fB, S_22, S_23, k0, k1, k2, k3, k4, List.length_map, g8, S_18, i1, i2, i3]
  · generalize hr : relR l m = r at g9 fr
    obtain ⟨x, e⟩ := r
    by_cases he : e = 0
    · obtain ⟨i1, i2, i3⟩ := inner [(114, .rc [.lst 3 (x.ls.map Lease.sv) .no, .lst 3 (x.hs.map Hold.sv) .no]), (23100, .rc [.byt B .no, .int .i64 A])] .no _ _ (.inl rfl) (fr he)
      refine ⟨.no, x, F, w, A, .inl rfl, fr he, hw0, by omega, by omega, hAB, ?_⟩
      rcases ht with rfl | rfl <;> simp only [r5_0, r5_1, r5_2, r5_3, r5_4, r5_5, r5_6, r5_7, r5_8, r5_9, r5_10, r5_11, r5_12, r5_13, r5_14, r5_15, r5_16, r5_17, r5_18, r5_19, r5_20, r5_21, r5_22, r5_23, r5_24, r5_25, r5_26, r5_27, r5_28, r5_30, r5_31, r5_32, r5_33, r5_34, r5_36, r5_37, r5_38, r5_39, r5_40, r5_43, F5, q5_29, q5_35, q5_41, q5_42, q5, go_sem, Int.reduceToNat, Int.reduceLE, Int.reduceLT, Int.reduceEq, Int.reduceNe, Int.reduceNeg, Int.reduceAdd, Int.reduceSub, Int.reduceMul, Nat.reducePow, Nat.reduceDiv, Nat.reduceMod, Nat.reduceAdd, Nat.reduceSub, Nat.reduceMul, Nat.reduceLT, Nat.reduceLeDiff, Nat.reduceEqDiff, Nat.reduceBEq, reduceCtorEq, reduceIte, codesO, g1, g2, g3, g4, e1, e2, e4, ha, hm, hw, hm2, hm3, hm4, hm5, hF.five, set_fB, S_22, S_23, k0, k1, k2, k3, k4, List.length_map, g9, he, S_16, i1, i2, i3]
    · obtain ⟨i1, i2, i3⟩ := inner [(114, .rc [.lst 3 (x.ls.map Lease.sv) .no, .lst 3 (x.hs.map Hold.sv) .no]), (23100, .rc [.byt B .no, .int .i64 A])] t l F ht hF
      refine ⟨t, l, F, w, A, ht, hF, hw0, by omega, by omega, hAB, ?_⟩
      rcases ht with rfl | rfl <;> simp only [r5_0, r5_1, r5_2, r5_3, r5_4, r5_5, r5_6, r5_7, r5_8, r5_9, r5_10, r5_11, r5_12, r5_13, r5_14, r5_15, r5_16, r5_17, r5_18, r5_19, r5_20, r5_21, r5_22, r5_23, r5_24, r5_25, r5_26, r5_27, r5_28, r5_30, r5_31, r5_32, r5_33, r5_34, r5_36, r5_37, r5_38, r5_39, r5_40, r5_43, F5, q5_29, q5_35, q5_41, q5_42, q5, go_sem, Int.reduceToNat, Int.reduceLE, Int.reduceLT, Int.reduceEq, Int.reduceNe, Int.reduceNeg, Int.reduceAdd, Int.reduceSub, Int.reduceMul, Nat.reducePow, Nat.reduceDiv, Nat.reduceMod, Nat.reduceAdd, Nat.reduceSub, Nat.reduceMul, Nat.reduceLT, Nat.reduceLeDiff, Nat.reduceEqDiff, Nat.reduceBEq, reduceCtorEq, reduceIte, codesO, g1, g2, g3, g4, e1, e2, e4, ha, hm, hw, hm2, hm3, hm4, hm5, hF.five, set_fB, S_22, S_23, k0, k1, k2, k3, k4, List.length_map, g9, he, S_16, i1, i2, i3]
theorem l5 (B : List UInt8) (hB : B.length ≤ 80) : ∀ (f a : Nat) (t : Tok) (l : Ls) (F : List Bool) (now : Int), B.length - a ≤ f → a ≤ B.length → Fit l F → 0 ≤ now → now ≤ 20 * (a : Int) → (t = .no ∨ t = .clip) →
    ∃ ob, run T (.loop r5_42) (st5 t l F now [(23100, codesO B a)] []) = some (.x 0, ⟨[], ob, []⟩) := by
  intro f
  induction f with
  | zero =>
    intro a t l F now hn ha hl h0 h1 ht
    have e : a = B.length := by omega
    subst e
    have g1 := f22 B B.length
    simp only [codesO, Nat.lt_irrefl, decide_false] at g1
    rw [run_loop]
    simp only [st5, codesO, List.append_nil]
    rcases ht with rfl | rfl <;> simp only [r5_0, r5_1, r5_2, r5_3, r5_4, r5_5, r5_6, r5_7, r5_8, r5_9, r5_10, r5_11, r5_12, r5_13, r5_14, r5_15, r5_16, r5_17, r5_18, r5_19, r5_20, r5_21, r5_22, r5_23, r5_24, r5_25, r5_26, r5_27, r5_28, r5_30, r5_31, r5_32, r5_33, r5_34, r5_36, r5_37, r5_38, r5_39, r5_40, r5_43, F5, q5_29, q5_35, q5_41, q5_42, q5, go_sem, Int.reduceToNat, Int.reduceLE, Int.reduceLT, Int.reduceEq, Int.reduceNe, Int.reduceNeg, Int.reduceAdd, Int.reduceSub, Int.reduceMul, Nat.reducePow, Nat.reduceDiv, Nat.reduceMod, Nat.reduceAdd, Nat.reduceSub, Nat.reduceMul, Nat.reduceLT, Nat.reduceLeDiff, Nat.reduceEqDiff, Nat.reduceBEq, reduceCtorEq, reduceIte, g1, S_22] <;> exact ⟨_, rfl⟩
  | succ f ih =>
    intro a t l F now hn ha hl h0 h1 ht
    rcases Nat.lt_or_ge a B.length with h | h
    · obtain ⟨t', l', F', now', a', k1, k2, k3, k4, k5, k6, k7⟩ := s5 B hB a h l F hl now h0 h1 t ht
      rw [k7]
      exact ih a' t' l' F' now' (by omega) k6 k2 k3 k4 k1
    · have e : a = B.length := by omega
      subst e
      have g1 := f22 B B.length
      simp only [codesO, Nat.lt_irrefl, decide_false] at g1
      rw [run_loop]
      simp only [st5, codesO, List.append_nil]
      rcases ht with rfl | rfl <;> simp only [r5_0, r5_1, r5_2, r5_3, r5_4, r5_5, r5_6, r5_7, r5_8, r5_9, r5_10, r5_11, r5_12, r5_13, r5_14, r5_15, r5_16, r5_17, r5_18, r5_19, r5_20, r5_21, r5_22, r5_23, r5_24, r5_25, r5_26, r5_27, r5_28, r5_30, r5_31, r5_32, r5_33, r5_34, r5_36, r5_37, r5_38, r5_39, r5_40, r5_43, F5, q5_29, q5_35, q5_41, q5_42, q5, go_sem, Int.reduceToNat, Int.reduceLE, Int.reduceLT, Int.reduceEq, Int.reduceNe, Int.reduceNeg, Int.reduceAdd, Int.reduceSub, Int.reduceMul, Nat.reducePow, Nat.reduceDiv, Nat.reduceMod, Nat.reduceAdd, Nat.reduceSub, Nat.reduceMul, Nat.reduceLT, Nat.reduceLeDiff, Nat.reduceEqDiff, Nat.reduceBEq, reduceCtorEq, reduceIte, g1, S_22] <;> exact ⟨_, rfl⟩
theorem f5 (c : List UInt8) (k n : Int) : call T 5 [.byt c .no, .int .i64 k, .int .i64 n] [] 0 = some ⟨.bool true, [], []⟩ := by
  have hB : (c.take 80).length ≤ 80 := by simp; omega
  obtain ⟨ob, h⟩ := l5 (c.take 80) hB 80 0 .clip ⟨[], []⟩ (List.replicate 5 false) 0 (by omega) (by omega) ⟨WF.nil, by simp, by simp, by simp⟩ (by omega) (by omega) (.inr rfl)
  have g := f12 c 80
  have c80 : ((80 : Nat) : Int) = 80 := rfl
  rw [c80] at g
  have er : (List.replicate 5 false).map fB = List.replicate 5 [.bool false] := rfl
  simp only [codesO, st5, Int.natCast_zero, List.map_nil, List.append_nil, er] at g h
  have hw : (List.replicate 5 [SV.bool false]).all (fun x => decide (x.length = 1)) = true := rfl
  rw [call_code T_5]
  simp only [r5_0, r5_1, r5_2, r5_3, r5_4, r5_5, r5_6, r5_7, r5_8, r5_9, r5_10, r5_11, r5_12, r5_13, r5_14, r5_15, r5_16, r5_17, r5_18, r5_19, r5_20, r5_21, r5_22, r5_23, r5_24, r5_25, r5_26, r5_27, r5_28, r5_30, r5_31, r5_32, r5_33, r5_34, r5_36, r5_37, r5_38, r5_39, r5_40, r5_43, F5, q5_29, q5_35, q5_41, q5_42, q5, go_sem, Int.reduceToNat, Int.reduceLE, Int.reduceLT, Int.reduceEq, Int.reduceNe, Int.reduceNeg, Int.reduceAdd, Int.reduceSub, Int.reduceMul, Nat.reducePow, Nat.reduceDiv, Nat.reduceMod, Nat.reduceAdd, Nat.reduceSub, Nat.reduceMul, Nat.reduceLT, Nat.reduceLeDiff, Nat.reduceEqDiff, Nat.reduceBEq, reduceCtorEq, reduceIte, f8, S_8, g, S_12, hw, h]
end Go.Proofs.Ytghggnfomlibjaa
