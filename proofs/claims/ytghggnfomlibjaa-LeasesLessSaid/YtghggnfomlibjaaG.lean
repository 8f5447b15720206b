/-
  Grant and Hold of the program; the sanity check; the play.
-/
import Derived.Test.YtghggnfomlibjaaQ
set_option maxRecDepth 100000
set_option linter.unusedSimpArgs false
set_option linter.unusedVariables false
namespace Go.Proofs.Ytghggnfomlibjaa
open Go.Sy

def rowL (x : Lease) : Vc.Row := ⟨x.m, .int .i64 x.u, .lst 1 (x.g.map bytS) .no, ⟨rfl, rfl⟩, ⟨rfl, rfl⟩⟩
def rowH (x : Hold) : Vc.Row := ⟨x.m, .int .i64 x.r, .int .i64 x.s, ⟨rfl, rfl⟩, ⟨rfl, rfl⟩⟩
theorem rowL_sv (l : List Lease) : (l.map rowL).map Vc.Row.sv = l.map Lease.sv := by rw [List.map_map]; rfl
theorem rowH_sv (l : List Hold) : (l.map rowH).map Vc.Row.sv = l.map Hold.sv := by rw [List.map_map]; rfl
theorem rowL_sorted {l : List Lease} (h : Sorted (l.map Lease.m)) : Vc.Sorted (l.map rowL) := by
  rw [Sorted, List.pairwise_map] at h
  rw [Vc.Sorted, List.pairwise_map]
  exact h
theorem rowH_sorted {l : List Hold} (h : Sorted (l.map Hold.m)) : Vc.Sorted (l.map rowH) := by
  rw [Sorted, List.pairwise_map] at h
  rw [Vc.Sorted, List.pairwise_map]
  exact h
theorem rowL_lb (l : List Lease) (m : Int) : Vc.lb (l.map rowL) m = lb (l.map Lease.m) m := by
  unfold Vc.lb lb
  rw [List.takeWhile_map, List.takeWhile_map, List.length_map, List.length_map]
  rfl
theorem rowH_lb (l : List Hold) (m : Int) : Vc.lb (l.map rowH) m = lb (l.map Hold.m) m := by
  unfold Vc.lb lb
  rw [List.takeWhile_map, List.takeWhile_map, List.length_map, List.length_map]
  rfl
theorem rowL_has (l : List Lease) (m : Int) : Vc.hasM (l.map rowL) m = has (l.map Lease.m) m := by
  unfold Vc.hasM has
  have e : (l.map rowL).map Vc.Row.m = l.map Lease.m := by rw [List.map_map]; rfl
  rw [rowL_lb, e, List.length_map, List.length_map]
theorem rowH_has (l : List Hold) (m : Int) : Vc.hasM (l.map rowH) m = has (l.map Hold.m) m := by
  unfold Vc.hasM has
  have e : (l.map rowH).map Vc.Row.m = l.map Hold.m := by rw [List.map_map]; rfl
  rw [rowH_lb, e, List.length_map, List.length_map]
theorem sv_rows (l : Ls) : Vc.lsSV (l.ls.map rowL) (l.hs.map rowH) = l.sv := by
  simp only [Vc.lsSV, Vc.rowsSV, rowL_sv, rowH_sv, Ls.sv, lsSV, hsSV]
theorem f13 (l : Ls) (hl : WF l) (m now : Int) (g : List (List UInt8)) : call T 13 [l.sv, .int .i64 m, .int .i64 now, gsSV g] [] 0 = some ⟨errV (grantP l m now g).1 (grantP l m now g).2, [], []⟩ := by
  rw [call_prim T_13, ← sv_rows]
  have hl1 := hl.len
  have hl2 := hl.len2
  refine (Vc.p13_eq _ _ (rowL_sorted hl.s1) (rowH_sorted hl.s2) (by rw [List.length_map]; omega) (by rw [List.length_map]; omega) m now (g.map bytS)).trans ?_
  unfold Vc.grantI grantP
  rw [rowH_has]
  by_cases c1 : ¬ (1 ≤ m ∧ m ≤ 4)
  · rw [if_pos c1, if_pos c1]; rfl
  · rw [if_neg c1, if_neg c1]
    by_cases c2 : now < 0 ∨ 1099511627776 < now
    · rw [if_pos c2, if_pos c2]; rfl
    · rw [if_neg c2, if_neg c2]
      by_cases c3 : has (l.hs.map Hold.m) m = true
      · rw [if_pos c3, if_pos c3]; rfl
      · rw [if_neg c3, if_neg c3]
        have e : Vc.grantL (l.ls.map rowL) (Vc.newL m now (g.map bytS)) = (putL Lease.m l.ls ⟨m, now + 64, g⟩).map rowL := by
          unfold Vc.grantL putL
          have en : Vc.newL m now (g.map bytS) = rowL ⟨m, now + 64, g⟩ := rfl
          rw [en]
          have em : (rowL ⟨m, now + 64, g⟩).m = m := rfl
          rw [em, rowL_has, rowL_lb]
          split
          · rw [List.map_set]
          · rw [List.map_append, List.map_append, List.map_take, List.map_drop]; rfl
        rw [e]
        show some _ = some _
        have := sv_rows ⟨putL Lease.m l.ls ⟨m, now + 64, g⟩, l.hs⟩
        simp only at this
        simp only [Vc.pairSV, errV, this]
theorem f18 (l : Ls) (hl : WF l) (m r s : Int) : call T 18 [l.sv, .int .i64 m, .int .i64 r, .int .i64 s] [] 0 = some ⟨(holdP l m r s).sv, [], []⟩ := by
  rw [call_prim T_18, ← sv_rows]
  have hl1 := hl.len
  have hl2 := hl.len2
  refine (Vc.p18_eq _ _ (rowL_sorted hl.s1) (rowH_sorted hl.s2) (by rw [List.length_map]; omega) (by rw [List.length_map]; omega) m r s).trans ?_
  unfold Vc.holdI holdP
  rw [rowH_has, rowH_lb]
  by_cases c3 : has (l.hs.map Hold.m) m = true
  · rw [if_pos c3, if_pos c3, sv_rows]
  · rw [if_neg c3, if_neg c3]
    by_cases c1 : ¬ (1 ≤ m ∧ m ≤ 4)
    · rw [if_pos c1, if_pos c1, sv_rows]
    · rw [if_neg c1, if_neg c1, ← sv_rows]
      have e : Vc.dropL (l.ls.map rowL) m = (dropM l.ls m).map rowL := by
        unfold Vc.dropL dropM
        rw [rowL_has, rowL_lb]
        split
        · rw [List.map_append, List.map_take, List.map_drop]
        · rfl
      rw [e]
      have e2 : List.take (lb (l.hs.map Hold.m) m) (l.hs.map rowH) ++ [Vc.newH m r s] ++ List.drop (lb (l.hs.map Hold.m) m) (l.hs.map rowH) = (l.hs.take (lb (l.hs.map Hold.m) m) ++ [(⟨m, r, s⟩ : Hold)] ++ l.hs.drop (lb (l.hs.map Hold.m) m)).map rowH := by
        rw [List.map_append, List.map_append, List.map_take, List.map_drop]; rfl
      rw [e2]
/-- The sanity check. -/
def la : Ls := ⟨[⟨2, 67, []⟩], []⟩
def ha : Ls := ⟨[], [⟨2, 47, 9⟩]⟩
theorem la_wf : WF la := ⟨List.pairwise_singleton _ _, List.Pairwise.nil, by intro x hx; rw [List.mem_singleton.1 hx]; decide, by simp [la], by intro x hx; rw [List.mem_singleton.1 hx]; exact ⟨by simp, by simp⟩⟩
theorem ha_wf : WF ha := ⟨List.Pairwise.nil, List.pairwise_singleton _ _, by simp [ha], by intro x hx; rw [List.mem_singleton.1 hx]; decide, by simp [ha]⟩
theorem f8 : call T 8 [] [] 0 = some ⟨.bool true, [], []⟩ := by
  have h1 := f13 ⟨[], []⟩ WF.nil 2 3 []
  have h2 := f18 la la_wf 2 47 9
  have h3 := f13 ha ha_wf 2 9 []
  have h4 := f16 ha 2 ha_wf.s2 (by simp [ha])
  have h5 := f24 la 2 66 la_wf.s1 (by simp [la])
  have h6 := f24 la 2 67 la_wf.s1 (by simp [la])
  have h7 := f20 ha 2 ha_wf.s2 (by simp [ha])
  have h8 := f24 ha 2 9 ha_wf.s1 (by simp [ha])
  have h9 := f20 ⟨[], []⟩ 2 WF.nil.s2 (by simp)
  have e1 : grantP ⟨[], []⟩ 2 3 [] = (la, 0) := by decide
  have e2 : holdP la 2 47 9 = ha := by decide
  have e3 : grantP ha 2 9 [] = (⟨[], []⟩, 48) := by decide
  have e4 : relP ha 2 = (⟨[], []⟩, 0) := by decide
  have e5 : admP la.ls 2 66 = true := by decide
  have e6 : admP la.ls 2 67 = false := by decide
  have e7 : has (ha.hs.map Hold.m) 2 = true := by decide
  have e8 : admP ha.ls 2 9 = false := by decide
  have e9 : has (([] : List Hold).map Hold.m) 2 = false := by decide
  rw [e1] at h1
  rw [e2] at h2
  rw [e3] at h3
  rw [e4] at h4
  rw [e5] at h5
  rw [e6] at h6
  rw [e7] at h7
  rw [e8] at h8
  simp only [e9] at h9
  simp only [la, ha, Ls.sv, lsSV, hsSV, errV, gsSV, List.map_nil, List.map_cons, Lease.sv, Hold.sv] at h1 h2 h3 h4 h5 h6 h7 h8 h9
  rw [call_code T_8]
  simp only [r8_0, r8_1, r8_2, r8_3, r8_4, r8_5, F8, q8, go_sem, Int.reduceToNat, Int.reduceLE, Int.reduceLT, Int.reduceEq, Int.reduceNe, Int.reduceNeg, Int.reduceAdd, Int.reduceSub, Int.reduceMul, Nat.reducePow, Nat.reduceDiv, Nat.reduceMod, Nat.reduceAdd, Nat.reduceSub, Nat.reduceMul, Nat.reduceLT, Nat.reduceLeDiff, Nat.reduceEqDiff, Nat.reduceBEq, reduceCtorEq, reduceIte, h1, h2, h3, h4, h5, h6, h7, h8, h9, S_13, S_18, S_16, S_24, S_20]
end Go.Proofs.Ytghggnfomlibjaa
