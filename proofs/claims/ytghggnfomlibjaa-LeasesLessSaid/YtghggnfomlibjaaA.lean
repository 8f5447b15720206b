/-
  Searching the lists.
-/
import Derived.Test.YtghggnfomlibjaaCode
set_option maxRecDepth 100000
set_option linter.unusedSimpArgs false
set_option linter.unusedVariables false
namespace Go.Proofs.Ytghggnfomlibjaa
open Go.Sy

/-! ## The data -/
structure Lease where
  m : Int
  u : Int
  g : List (List UInt8)
  deriving DecidableEq, Inhabited
structure Hold where
  m : Int
  r : Int
  s : Int
  deriving DecidableEq, Inhabited
def bytS (b : List UInt8) : List SV := [.byt b .no]
def gsSV (g : List (List UInt8)) : SV := .lst 1 (g.map bytS) .no
def Lease.sv (l : Lease) : List SV := [.int .i64 l.m, .int .i64 l.u, gsSV l.g]
def Hold.sv (h : Hold) : List SV := [.int .i64 h.m, .int .i64 h.r, .int .i64 h.s]
def lsSV (l : List Lease) : SV := .lst 3 (l.map Lease.sv) .no
def hsSV (l : List Hold) : SV := .lst 3 (l.map Hold.sv) .no
structure Ls where
  ls : List Lease
  hs : List Hold
  deriving DecidableEq
def Ls.sv (l : Ls) : SV := .agg [lsSV l.ls, hsSV l.hs]

theorem getD_map {α : Type} [Inhabited α] (f : α → List SV) (l : List α) (i : Nat) (h : i < l.length) : (l.map f).getD i [] = f (l.getD i default) := by
  simp only [List.getD_eq_getElem?_getD, List.getElem?_map, List.getElem?_eq_getElem h, Option.map_some, Option.getD_some]
theorem w64 {n : Int} (h1 : -9223372036854775808 ≤ n) (h2 : n ≤ 9223372036854775807) : IntKind.i64.wrap n = n := by
  rw [IntKind.wrap_i64]; omega

theorem f30 (m : Int) : call T 30 [.int .i64 m] [] 0 = some ⟨.bool (decide (1 ≤ m ∧ m ≤ 4)), [], []⟩ := by
  rw [call_code T_30]
  simp only [r30_0, r30_1, F30, q30, go_sem, Int.reduceToNat, Int.reduceLE, Int.reduceLT, Int.reduceEq, Int.reduceNe, Int.reduceNeg, Int.reduceAdd, Int.reduceSub, Int.reduceMul, Nat.reducePow, Nat.reduceDiv, Nat.reduceMod, Nat.reduceAdd, Nat.reduceSub, Nat.reduceMul, Nat.reduceLT, Nat.reduceLeDiff, Nat.reduceEqDiff, Nat.reduceBEq, reduceCtorEq, reduceIte]
theorem f56 (m : Int) : call T 56 [.int .i64 m] [] 0 = some ⟨.bool false, [], []⟩ := by
  rw [call_code T_56]
  simp only [r56_0, r56_1, F56, q56, go_sem, Int.reduceToNat, Int.reduceLE, Int.reduceLT, Int.reduceEq, Int.reduceNe, Int.reduceNeg, Int.reduceAdd, Int.reduceSub, Int.reduceMul, Nat.reducePow, Nat.reduceDiv, Nat.reduceMod, Nat.reduceAdd, Nat.reduceSub, Nat.reduceMul, Nat.reduceLT, Nat.reduceLeDiff, Nat.reduceEqDiff, Nat.reduceBEq, reduceCtorEq, reduceIte]
def cmpI (a b : Int) : Int := if a < b then -1 else if b < a then 1 else 0
theorem f47 (a b : Int) : call T 47 [.int .i64 a, .int .i64 b] [] 0 = some ⟨.int .i64 (cmpI a b), [], []⟩ := by
  rw [call_code T_47]
  simp only [r47_0, r47_1, r47_2, r47_3, r47_4, r47_5, r47_6, r47_7, r47_8, r47_9, r47_10, r47_11, r47_12, r47_13, F47, q47, go_sem, Int.reduceToNat, Int.reduceLE, Int.reduceLT, Int.reduceEq, Int.reduceNe, Int.reduceNeg, Int.reduceAdd, Int.reduceSub, Int.reduceMul, Nat.reducePow, Nat.reduceDiv, Nat.reduceMod, Nat.reduceAdd, Nat.reduceSub, Nat.reduceMul, Nat.reduceLT, Nat.reduceLeDiff, Nat.reduceEqDiff, Nat.reduceBEq, reduceCtorEq, reduceIte, f56, S_56, cmpI]
  by_cases h : a < b
  · simp only [h, go_sem, Int.reduceToNat, Int.reduceLE, Int.reduceLT, Int.reduceEq, Int.reduceNe, Int.reduceNeg, Int.reduceAdd, Int.reduceSub, Int.reduceMul, Nat.reducePow, Nat.reduceDiv, Nat.reduceMod, Nat.reduceAdd, Nat.reduceSub, Nat.reduceMul, Nat.reduceLT, Nat.reduceLeDiff, Nat.reduceEqDiff, Nat.reduceBEq, reduceCtorEq, reduceIte]
  · by_cases h2 : b < a <;> simp only [h, h2, go_sem, Int.reduceToNat, Int.reduceLE, Int.reduceLT, Int.reduceEq, Int.reduceNe, Int.reduceNeg, Int.reduceAdd, Int.reduceSub, Int.reduceMul, Nat.reducePow, Nat.reduceDiv, Nat.reduceMod, Nat.reduceAdd, Nat.reduceSub, Nat.reduceMul, Nat.reduceLT, Nat.reduceLeDiff, Nat.reduceEqDiff, Nat.reduceBEq, reduceCtorEq, reduceIte]
theorem f46 (l : Lease) (b : Int) : call T 46 [.agg [.int .i64 l.m, .int .i64 l.u, .lst 1 (l.g.map bytS) .no], .int .i64 b] [] 0 = some ⟨.int .i64 (cmpI l.m b), [], []⟩ := by
  rw [call_code T_46]
  simp only [r46_0, r46_1, F46, q46, go_sem, Int.reduceToNat, Int.reduceLE, Int.reduceLT, Int.reduceEq, Int.reduceNe, Int.reduceNeg, Int.reduceAdd, Int.reduceSub, Int.reduceMul, Nat.reducePow, Nat.reduceDiv, Nat.reduceMod, Nat.reduceAdd, Nat.reduceSub, Nat.reduceMul, Nat.reduceLT, Nat.reduceLeDiff, Nat.reduceEqDiff, Nat.reduceBEq, reduceCtorEq, reduceIte, f47, S_47]
theorem f52 (l : Hold) (b : Int) : call T 52 [.agg [.int .i64 l.m, .int .i64 l.r, .int .i64 l.s], .int .i64 b] [] 0 = some ⟨.int .i64 (cmpI l.m b), [], []⟩ := by
  rw [call_code T_52]
  simp only [r52_0, r52_1, F52, q52, go_sem, Int.reduceToNat, Int.reduceLE, Int.reduceLT, Int.reduceEq, Int.reduceNe, Int.reduceNeg, Int.reduceAdd, Int.reduceSub, Int.reduceMul, Nat.reducePow, Nat.reduceDiv, Nat.reduceMod, Nat.reduceAdd, Nat.reduceSub, Nat.reduceMul, Nat.reduceLT, Nat.reduceLeDiff, Nat.reduceEqDiff, Nat.reduceBEq, reduceCtorEq, reduceIte, f47, S_47]
theorem hmid (i j : Nat) (h : i + j ≤ 4000000000) : IntKind.i64.wrap ((IntKind.u64.wrap (IntKind.i64.wrap ((i : Int) + j))).fdiv (2 ^ min 1 IntKind.u64.bits)) = (((i + j) / 2 : Nat) : Int) := by
  have e : (2 : Int) ^ min 1 IntKind.u64.bits = 2 := rfl
  have e1 : IntKind.i64.wrap ((i : Int) + j) = (i : Int) + j := w64 (by omega) (by omega)
  rw [e, e1, IntKind.wrap_u64, Int.fdiv_eq_ediv_of_nonneg _ (by omega), w64 (by omega) (by omega)]
  omega
/-- How many machines are less than m. -/
def lb (ms : List Int) (m : Int) : Nat := (ms.takeWhile fun r => decide (r < m)).length
def Sorted (ms : List Int) : Prop := ms.Pairwise (· < ·)
def has (ms : List Int) (m : Int) : Bool := decide (lb ms m < ms.length ∧ ms.getD (lb ms m) 0 = m)
theorem lb_eq {ms : List Int} {m : Int} {k : Nat} (hk : k ≤ ms.length) (h1 : ∀ i, i < k → ms.getD i 0 < m) (h2 : ∀ i, i < ms.length → k ≤ i → ¬ ms.getD i 0 < m) : lb ms m = k := by
  unfold lb
  induction ms generalizing k with
  | nil => simp at hk; simp [hk]
  | cons r ms ih =>
    cases k with
    | zero =>
      have := h2 0 (by simp) (by omega)
      rw [List.getD_cons_zero] at this
      rw [List.takeWhile_cons, if_neg (by simpa using this)]; rfl
    | succ k =>
      have := h1 0 (by omega)
      rw [List.getD_cons_zero] at this
      rw [List.takeWhile_cons, if_pos (by simpa using this), List.length_cons, ih (k := k) (by simpa using hk)]
      · intro i hi; have := h1 (i + 1) (by omega); rwa [List.getD_cons_succ] at this
      · intro i h hi; have := h2 (i + 1) (by simpa using h) (by omega); rwa [List.getD_cons_succ] at this
theorem cmp_lt (a b : Int) : cmpI a b < 0 ↔ a < b := by
  unfold cmpI
  split
  · omega
  · split <;> omega
theorem cmp_eq (a b : Int) : cmpI a b = 0 ↔ a = b := by
  unfold cmpI
  split
  · omega
  · split <;> omega
theorem sorted_lt {ms : List Int} (h : Sorted ms) {i j : Nat} (hij : i < j) (hj : j < ms.length) : ms.getD i 0 < ms.getD j 0 := by
  rw [List.getD_eq_getElem?_getD, List.getD_eq_getElem?_getD, List.getElem?_eq_getElem hj, List.getElem?_eq_getElem (by omega)]
  exact List.pairwise_iff_getElem.1 h i j (by omega) hj hij
theorem ms_getD (ls : List Lease) {i : Nat} (h : i < ls.length) : (ls.map Lease.m).getD i 0 = (ls.getD i default).m := by
  simp only [List.getD_eq_getElem?_getD, List.getElem?_map, List.getElem?_eq_getElem h, Option.map_some, Option.getD_some]
theorem hs_getD (ls : List Hold) {i : Nat} (h : i < ls.length) : (ls.map Hold.m).getD i 0 = (ls.getD i default).m := by
  simp only [List.getD_eq_getElem?_getD, List.getElem?_map, List.getElem?_eq_getElem h, Option.map_some, Option.getD_some]

theorem l45 (ls : List Lease) (m : Int) (hs : Sorted (ls.map Lease.m)) (hl : ls.length ≤ 1000000000) : ∀ (n i j : Nat), j - i ≤ n → i ≤ j → j ≤ ls.length → (∀ k, k < i → (ls.map Lease.m).getD k 0 < m) → (∀ k, k < ls.length → j ≤ k → ¬ (ls.map Lease.m).getD k 0 < m) →
    run T (.loop r45_8) ⟨[(0, .lst 3 (ls.map Lease.sv) .no), (1, .int .i64 m), (2, .fn 46 [] []), (8, .int .i64 ls.length), (9, .int .i64 i), (10, .int .i64 j)], [], []⟩ =
      some (.x 0, ⟨[(0, .lst 3 (ls.map Lease.sv) .no), (1, .int .i64 m), (2, .fn 46 [] []), (8, .int .i64 ls.length), (9, .int .i64 (lb (ls.map Lease.m) m))], [], []⟩) := by
  intro n
  induction n with
  | zero =>
    intro i j h0 h1 h2 h3 h4
    have hij : i = j := by omega
    subst hij
    rw [run_loop]
    simp only [r45_0, r45_1, r45_2, r45_3, r45_4, r45_5, r45_6, r45_7, r45_9, F45, q45_8, q45, go_sem, Int.reduceToNat, Int.reduceLE, Int.reduceLT, Int.reduceEq, Int.reduceNe, Int.reduceNeg, Int.reduceAdd, Int.reduceSub, Int.reduceMul, Nat.reducePow, Nat.reduceDiv, Nat.reduceMod, Nat.reduceAdd, Nat.reduceSub, Nat.reduceMul, Nat.reduceLT, Nat.reduceLeDiff, Nat.reduceEqDiff, Nat.reduceBEq, reduceCtorEq, reduceIte]
    rw [lb_eq (by simpa using h2) h3 (by simpa using h4)]
  | succ n ih =>
    intro i j h0 h1 h2 h3 h4
    by_cases h : i < j
    · have hk : (i + j) / 2 < ls.length := by omega
      have e1 : IntKind.i64.wrap ((IntKind.u64.wrap (IntKind.i64.wrap ((i : Int) + j))).fdiv (2 ^ min 1 64)) = (((i + j) / 2 : Nat) : Int) := hmid i j (by omega)
      have e2 := getD_map Lease.sv ls ((i + j) / 2) hk
      have e3 : IntKind.i64.wrap ((((i + j) / 2 : Nat) : Int) + 1) = (((i + j) / 2 + 1 : Nat) : Int) := by rw [w64 (by omega) (by omega)]; omega
      rw [run_loop]
      simp only [r45_0, r45_1, r45_2, r45_3, r45_4, r45_5, r45_6, r45_7, r45_9, F45, q45_8, q45, go_sem, Int.reduceToNat, Int.reduceLE, Int.reduceLT, Int.reduceEq, Int.reduceNe, Int.reduceNeg, Int.reduceAdd, Int.reduceSub, Int.reduceMul, Nat.reducePow, Nat.reduceDiv, Nat.reduceMod, Nat.reduceAdd, Nat.reduceSub, Nat.reduceMul, Nat.reduceLT, Nat.reduceLeDiff, Nat.reduceEqDiff, Nat.reduceBEq, reduceCtorEq, reduceIte, h, e1, hk, List.length_map, e2, Lease.sv, gsSV, f46, S_46, e3]

      by_cases hc : cmpI (ls.getD ((i + j) / 2) default).m m < 0
      · simp only [hc, go_sem, Int.reduceToNat, Int.reduceLE, Int.reduceLT, Int.reduceEq, Int.reduceNe, Int.reduceNeg, Int.reduceAdd, Int.reduceSub, Int.reduceMul, Nat.reducePow, Nat.reduceDiv, Nat.reduceMod, Nat.reduceAdd, Nat.reduceSub, Nat.reduceMul, Nat.reduceLT, Nat.reduceLeDiff, Nat.reduceEqDiff, Nat.reduceBEq, reduceCtorEq, reduceIte]
        have hm : (ls.getD ((i + j) / 2) default).m < m := (cmp_lt _ _).1 hc
        refine ih _ _ (by omega) (by omega) h2 (fun k hk' => ?_) h4
        rcases Nat.lt_or_ge k ((i + j) / 2) with h5 | h5
        · have := sorted_lt hs (i := k) (j := (i + j) / 2) h5 (by simpa using hk)
          rw [ms_getD ls hk] at this; omega
        · have : k = (i + j) / 2 := by omega
          subst this; rw [ms_getD ls hk]; exact hm
      · simp only [hc, go_sem, Int.reduceToNat, Int.reduceLE, Int.reduceLT, Int.reduceEq, Int.reduceNe, Int.reduceNeg, Int.reduceAdd, Int.reduceSub, Int.reduceMul, Nat.reducePow, Nat.reduceDiv, Nat.reduceMod, Nat.reduceAdd, Nat.reduceSub, Nat.reduceMul, Nat.reduceLT, Nat.reduceLeDiff, Nat.reduceEqDiff, Nat.reduceBEq, reduceCtorEq, reduceIte]
        have hm : ¬ (ls.getD ((i + j) / 2) default).m < m := fun h => hc ((cmp_lt _ _).2 h)
        refine ih _ _ (by omega) (by omega) (by omega) h3 (fun k hk' h6 => ?_)
        rcases Nat.lt_or_ge ((i + j) / 2) k with h5 | h5
        · have := sorted_lt hs (i := (i + j) / 2) (j := k) h5 (by simpa using hk')
          rw [ms_getD ls hk] at this; omega
        · have : k = (i + j) / 2 := by omega
          subst this; rw [ms_getD ls hk]; exact hm
    · have hij : i = j := by omega
      subst hij
      rw [run_loop]
      simp only [r45_0, r45_1, r45_2, r45_3, r45_4, r45_5, r45_6, r45_7, r45_9, F45, q45_8, q45, go_sem, Int.reduceToNat, Int.reduceLE, Int.reduceLT, Int.reduceEq, Int.reduceNe, Int.reduceNeg, Int.reduceAdd, Int.reduceSub, Int.reduceMul, Nat.reducePow, Nat.reduceDiv, Nat.reduceMod, Nat.reduceAdd, Nat.reduceSub, Nat.reduceMul, Nat.reduceLT, Nat.reduceLeDiff, Nat.reduceEqDiff, Nat.reduceBEq, reduceCtorEq, reduceIte]
      rw [lb_eq (by simpa using h2) h3 (by simpa using h4)]
theorem f45 (ls : List Lease) (m : Int) (hs : Sorted (ls.map Lease.m)) (hl : ls.length ≤ 1000000000) :
    call T 45 [.lst 3 (ls.map Lease.sv) .no, .int .i64 m, .fn 46 [] []] [] 0 = some ⟨.tup [.int .i64 (lb (ls.map Lease.m) m), .bool (has (ls.map Lease.m) m)], [], []⟩ := by
  have h0 := l45 ls m hs hl ls.length 0 ls.length (by omega) (by omega) (by omega) (fun k hk => by omega) (fun k h1 h2 => by omega)
  simp only [Int.natCast_zero] at h0
  rw [call_code T_45]
  simp only [r45_0, r45_1, r45_2, r45_3, r45_4, r45_5, r45_6, r45_7, r45_9, F45, q45_8, q45, go_sem, Int.reduceToNat, Int.reduceLE, Int.reduceLT, Int.reduceEq, Int.reduceNe, Int.reduceNeg, Int.reduceAdd, Int.reduceSub, Int.reduceMul, Nat.reducePow, Nat.reduceDiv, Nat.reduceMod, Nat.reduceAdd, Nat.reduceSub, Nat.reduceMul, Nat.reduceLT, Nat.reduceLeDiff, Nat.reduceEqDiff, Nat.reduceBEq, reduceCtorEq, reduceIte, List.length_map, h0]
  by_cases h : lb (ls.map Lease.m) m < ls.length
  · have e2 := getD_map Lease.sv ls _ h
    simp only [h, go_sem, Int.reduceToNat, Int.reduceLE, Int.reduceLT, Int.reduceEq, Int.reduceNe, Int.reduceNeg, Int.reduceAdd, Int.reduceSub, Int.reduceMul, Nat.reducePow, Nat.reduceDiv, Nat.reduceMod, Nat.reduceAdd, Nat.reduceSub, Nat.reduceMul, Nat.reduceLT, Nat.reduceLeDiff, Nat.reduceEqDiff, Nat.reduceBEq, reduceCtorEq, reduceIte, r45_0, r45_1, r45_2, r45_3, r45_4, r45_5, r45_6, r45_7, r45_9, F45, q45_8, q45, e2, List.length_map, Lease.sv, gsSV, f46, S_46]
    simp only [has, h, List.length_map, ms_getD ls h, cmp_eq, true_and]
  · simp only [h, go_sem, Int.reduceToNat, Int.reduceLE, Int.reduceLT, Int.reduceEq, Int.reduceNe, Int.reduceNeg, Int.reduceAdd, Int.reduceSub, Int.reduceMul, Nat.reducePow, Nat.reduceDiv, Nat.reduceMod, Nat.reduceAdd, Nat.reduceSub, Nat.reduceMul, Nat.reduceLT, Nat.reduceLeDiff, Nat.reduceEqDiff, Nat.reduceBEq, reduceCtorEq, reduceIte, r45_0, r45_1, r45_2, r45_3, r45_4, r45_5, r45_6, r45_7, r45_9, F45, q45_8, q45, has, List.length_map, false_and, decide_false]
theorem l51 (ls : List Hold) (m : Int) (hs : Sorted (ls.map Hold.m)) (hl : ls.length ≤ 1000000000) : ∀ (n i j : Nat), j - i ≤ n → i ≤ j → j ≤ ls.length → (∀ k, k < i → (ls.map Hold.m).getD k 0 < m) → (∀ k, k < ls.length → j ≤ k → ¬ (ls.map Hold.m).getD k 0 < m) →
    run T (.loop r51_8) ⟨[(0, .lst 3 (ls.map Hold.sv) .no), (1, .int .i64 m), (2, .fn 52 [] []), (8, .int .i64 ls.length), (9, .int .i64 i), (10, .int .i64 j)], [], []⟩ =
      some (.x 0, ⟨[(0, .lst 3 (ls.map Hold.sv) .no), (1, .int .i64 m), (2, .fn 52 [] []), (8, .int .i64 ls.length), (9, .int .i64 (lb (ls.map Hold.m) m))], [], []⟩) := by
  intro n
  induction n with
  | zero =>
    intro i j h0 h1 h2 h3 h4
    have hij : i = j := by omega
    subst hij
    rw [run_loop]
    simp only [r51_0, r51_1, r51_2, r51_3, r51_4, r51_5, r51_6, r51_7, r51_9, F51, q51_8, q51, go_sem, Int.reduceToNat, Int.reduceLE, Int.reduceLT, Int.reduceEq, Int.reduceNe, Int.reduceNeg, Int.reduceAdd, Int.reduceSub, Int.reduceMul, Nat.reducePow, Nat.reduceDiv, Nat.reduceMod, Nat.reduceAdd, Nat.reduceSub, Nat.reduceMul, Nat.reduceLT, Nat.reduceLeDiff, Nat.reduceEqDiff, Nat.reduceBEq, reduceCtorEq, reduceIte]
    rw [lb_eq (by simpa using h2) h3 (by simpa using h4)]
  | succ n ih =>
    intro i j h0 h1 h2 h3 h4
    by_cases h : i < j
    · have hk : (i + j) / 2 < ls.length := by omega
      have e1 : IntKind.i64.wrap ((IntKind.u64.wrap (IntKind.i64.wrap ((i : Int) + j))).fdiv (2 ^ min 1 64)) = (((i + j) / 2 : Nat) : Int) := hmid i j (by omega)
      have e2 := getD_map Hold.sv ls ((i + j) / 2) hk
      have e3 : IntKind.i64.wrap ((((i + j) / 2 : Nat) : Int) + 1) = (((i + j) / 2 + 1 : Nat) : Int) := by rw [w64 (by omega) (by omega)]; omega
      rw [run_loop]
      simp only [r51_0, r51_1, r51_2, r51_3, r51_4, r51_5, r51_6, r51_7, r51_9, F51, q51_8, q51, go_sem, Int.reduceToNat, Int.reduceLE, Int.reduceLT, Int.reduceEq, Int.reduceNe, Int.reduceNeg, Int.reduceAdd, Int.reduceSub, Int.reduceMul, Nat.reducePow, Nat.reduceDiv, Nat.reduceMod, Nat.reduceAdd, Nat.reduceSub, Nat.reduceMul, Nat.reduceLT, Nat.reduceLeDiff, Nat.reduceEqDiff, Nat.reduceBEq, reduceCtorEq, reduceIte, h, e1, hk, List.length_map, e2, Hold.sv, f52, S_52, e3]

      by_cases hc : cmpI (ls.getD ((i + j) / 2) default).m m < 0
      · simp only [hc, go_sem, Int.reduceToNat, Int.reduceLE, Int.reduceLT, Int.reduceEq, Int.reduceNe, Int.reduceNeg, Int.reduceAdd, Int.reduceSub, Int.reduceMul, Nat.reducePow, Nat.reduceDiv, Nat.reduceMod, Nat.reduceAdd, Nat.reduceSub, Nat.reduceMul, Nat.reduceLT, Nat.reduceLeDiff, Nat.reduceEqDiff, Nat.reduceBEq, reduceCtorEq, reduceIte]
        have hm : (ls.getD ((i + j) / 2) default).m < m := (cmp_lt _ _).1 hc
        refine ih _ _ (by omega) (by omega) h2 (fun k hk' => ?_) h4
        rcases Nat.lt_or_ge k ((i + j) / 2) with h5 | h5
        · have := sorted_lt hs (i := k) (j := (i + j) / 2) h5 (by simpa using hk)
          rw [hs_getD ls hk] at this; omega
        · have : k = (i + j) / 2 := by omega
          subst this; rw [hs_getD ls hk]; exact hm
      · simp only [hc, go_sem, Int.reduceToNat, Int.reduceLE, Int.reduceLT, Int.reduceEq, Int.reduceNe, Int.reduceNeg, Int.reduceAdd, Int.reduceSub, Int.reduceMul, Nat.reducePow, Nat.reduceDiv, Nat.reduceMod, Nat.reduceAdd, Nat.reduceSub, Nat.reduceMul, Nat.reduceLT, Nat.reduceLeDiff, Nat.reduceEqDiff, Nat.reduceBEq, reduceCtorEq, reduceIte]
        have hm : ¬ (ls.getD ((i + j) / 2) default).m < m := fun h => hc ((cmp_lt _ _).2 h)
        refine ih _ _ (by omega) (by omega) (by omega) h3 (fun k hk' h6 => ?_)
        rcases Nat.lt_or_ge ((i + j) / 2) k with h5 | h5
        · have := sorted_lt hs (i := (i + j) / 2) (j := k) h5 (by simpa using hk')
          rw [hs_getD ls hk] at this; omega
        · have : k = (i + j) / 2 := by omega
          subst this; rw [hs_getD ls hk]; exact hm
    · have hij : i = j := by omega
      subst hij
      rw [run_loop]
      simp only [r51_0, r51_1, r51_2, r51_3, r51_4, r51_5, r51_6, r51_7, r51_9, F51, q51_8, q51, go_sem, Int.reduceToNat, Int.reduceLE, Int.reduceLT, Int.reduceEq, Int.reduceNe, Int.reduceNeg, Int.reduceAdd, Int.reduceSub, Int.reduceMul, Nat.reducePow, Nat.reduceDiv, Nat.reduceMod, Nat.reduceAdd, Nat.reduceSub, Nat.reduceMul, Nat.reduceLT, Nat.reduceLeDiff, Nat.reduceEqDiff, Nat.reduceBEq, reduceCtorEq, reduceIte]
      rw [lb_eq (by simpa using h2) h3 (by simpa using h4)]
theorem f51 (ls : List Hold) (m : Int) (hs : Sorted (ls.map Hold.m)) (hl : ls.length ≤ 1000000000) :
    call T 51 [.lst 3 (ls.map Hold.sv) .no, .int .i64 m, .fn 52 [] []] [] 0 = some ⟨.tup [.int .i64 (lb (ls.map Hold.m) m), .bool (has (ls.map Hold.m) m)], [], []⟩ := by
  have h0 := l51 ls m hs hl ls.length 0 ls.length (by omega) (by omega) (by omega) (fun k hk => by omega) (fun k h1 h2 => by omega)
  simp only [Int.natCast_zero] at h0
  rw [call_code T_51]
  simp only [r51_0, r51_1, r51_2, r51_3, r51_4, r51_5, r51_6, r51_7, r51_9, F51, q51_8, q51, go_sem, Int.reduceToNat, Int.reduceLE, Int.reduceLT, Int.reduceEq, Int.reduceNe, Int.reduceNeg, Int.reduceAdd, Int.reduceSub, Int.reduceMul, Nat.reducePow, Nat.reduceDiv, Nat.reduceMod, Nat.reduceAdd, Nat.reduceSub, Nat.reduceMul, Nat.reduceLT, Nat.reduceLeDiff, Nat.reduceEqDiff, Nat.reduceBEq, reduceCtorEq, reduceIte, List.length_map, h0]
  by_cases h : lb (ls.map Hold.m) m < ls.length
  · have e2 := getD_map Hold.sv ls _ h
    simp only [h, go_sem, Int.reduceToNat, Int.reduceLE, Int.reduceLT, Int.reduceEq, Int.reduceNe, Int.reduceNeg, Int.reduceAdd, Int.reduceSub, Int.reduceMul, Nat.reducePow, Nat.reduceDiv, Nat.reduceMod, Nat.reduceAdd, Nat.reduceSub, Nat.reduceMul, Nat.reduceLT, Nat.reduceLeDiff, Nat.reduceEqDiff, Nat.reduceBEq, reduceCtorEq, reduceIte, r51_0, r51_1, r51_2, r51_3, r51_4, r51_5, r51_6, r51_7, r51_9, F51, q51_8, q51, e2, List.length_map, Hold.sv, f52, S_52]
    simp only [has, h, List.length_map, hs_getD ls h, cmp_eq, true_and]
  · simp only [h, go_sem, Int.reduceToNat, Int.reduceLE, Int.reduceLT, Int.reduceEq, Int.reduceNe, Int.reduceNeg, Int.reduceAdd, Int.reduceSub, Int.reduceMul, Nat.reducePow, Nat.reduceDiv, Nat.reduceMod, Nat.reduceAdd, Nat.reduceSub, Nat.reduceMul, Nat.reduceLT, Nat.reduceLeDiff, Nat.reduceEqDiff, Nat.reduceBEq, reduceCtorEq, reduceIte, r51_0, r51_1, r51_2, r51_3, r51_4, r51_5, r51_6, r51_7, r51_9, F51, q51_8, q51, has, List.length_map, false_and, decide_false]
theorem f31 (l : Ls) (m : Int) (hs : Sorted (l.ls.map Lease.m)) (hl : l.ls.length ≤ 1000000000) : call T 31 [l.sv, .int .i64 m] [] 0 = some ⟨.tup [.int .i64 (lb (l.ls.map Lease.m) m), .bool (has (l.ls.map Lease.m) m)], [], []⟩ := by
  rw [call_code T_31]
  simp only [r31_0, r31_1, F31, q31, go_sem, Int.reduceToNat, Int.reduceLE, Int.reduceLT, Int.reduceEq, Int.reduceNe, Int.reduceNeg, Int.reduceAdd, Int.reduceSub, Int.reduceMul, Nat.reducePow, Nat.reduceDiv, Nat.reduceMod, Nat.reduceAdd, Nat.reduceSub, Nat.reduceMul, Nat.reduceLT, Nat.reduceLeDiff, Nat.reduceEqDiff, Nat.reduceBEq, reduceCtorEq, reduceIte, Ls.sv, lsSV, hsSV, f45 _ m hs hl, S_45]
theorem f35 (l : Ls) (m : Int) (hs : Sorted (l.hs.map Hold.m)) (hl : l.hs.length ≤ 1000000000) : call T 35 [l.sv, .int .i64 m] [] 0 = some ⟨.tup [.int .i64 (lb (l.hs.map Hold.m) m), .bool (has (l.hs.map Hold.m) m)], [], []⟩ := by
  rw [call_code T_35]
  simp only [r35_0, r35_1, F35, q35, go_sem, Int.reduceToNat, Int.reduceLE, Int.reduceLT, Int.reduceEq, Int.reduceNe, Int.reduceNeg, Int.reduceAdd, Int.reduceSub, Int.reduceMul, Nat.reducePow, Nat.reduceDiv, Nat.reduceMod, Nat.reduceAdd, Nat.reduceSub, Nat.reduceMul, Nat.reduceLT, Nat.reduceLeDiff, Nat.reduceEqDiff, Nat.reduceBEq, reduceCtorEq, reduceIte, Ls.sv, lsSV, hsSV, f51 _ m hs hl, S_51]
theorem f20 (l : Ls) (m : Int) (hs : Sorted (l.hs.map Hold.m)) (hl : l.hs.length ≤ 1000000000) : call T 20 [l.sv, .int .i64 m] [] 0 = some ⟨.bool (has (l.hs.map Hold.m) m), [], []⟩ := by
  have h := f35 l m hs hl
  rw [call_code T_20]
  simp only [Ls.sv, lsSV, hsSV] at h ⊢
  simp only [r20_0, r20_1, r20_2, F20, q20, go_sem, Int.reduceToNat, Int.reduceLE, Int.reduceLT, Int.reduceEq, Int.reduceNe, Int.reduceNeg, Int.reduceAdd, Int.reduceSub, Int.reduceMul, Nat.reducePow, Nat.reduceDiv, Nat.reduceMod, Nat.reduceAdd, Nat.reduceSub, Nat.reduceMul, Nat.reduceLT, Nat.reduceLeDiff, Nat.reduceEqDiff, Nat.reduceBEq, reduceCtorEq, reduceIte, h, S_35]
end Go.Proofs.Ytghggnfomlibjaa
